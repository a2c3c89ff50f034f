import PyProof.Rows.All
import Wide.All
import OpenK.AllK
import Wide.FinOn
import HandS.ForMost
import HandS.Evl
import HandS.IsInst
import HandS.Flow
import HandS.Defaults
import HandS.Wide
import HandS.WideMore
import HandS.Style
import HandS.ForExc
import HandS.TryOnly
import HandS.CallSlots
import HandS.ExcIs
import HandS.Walk
import HandS.Iter
import HandS.More
import HandS.TryMany
import HandS.ClsMeth
import HandS.TupAny
import HandS.SortKw
import HandS.WideBits
import HandS.Deep
import HandS.FStr
import KE.KCallOwn
import PyProof.Rows.FactsN_divmod
import KE.GoesRaise
import PySem.Challenge.RW_lanescroll_k43_indexes_and_their_bodies
set_option Elab.async false
set_option linter.all false
set_option maxRecDepth 100000
set_option maxHeartbeats 2000000
namespace Y
open PySem PySem.Spec PyProof.Rows
open L2

/-- data: what a value stands for, through the heap -/
inductive D where
  | non | bl (b : Bool) | int (i : Int) | str (x : Str)
  | lst (ds : List D) | tup (ds : List D) | dic (kvs : List (Key × D))
  | obj (nm : Str) (fs : List (Str × D))

/-- a class of the text: its name, its address; what isinstance asks -/
structure KC (K : PySem.W.Frag) (nm : Str) (C : Addr) : Prop where
  a : PySem.W.nsIn K mainGlobals nm = some (some (.ref C))
  c : Cls K C
  ha : PySem.W.findIn K (.ref C) "__class__" = some (some (.builtin "object.__class__"))
  hn : PySem.W.specialIn K (.builtin "object.__class__") "__get__" = some (some (.builtin "getset_descriptor.__get__"))
  ht : PySem.W.takesIn K (.builtin "object.__class__") = some true
  hm : PySem.W.mroIn K C (.type "object") = some true
  bt : ∀ t ∈ ["bool", "int", "str", "list", "tuple", "dict"], PySem.W.subIn K (.ref C) (.type t) = some false

abbrev Ex (H H' : Hp) : Prop := ∀ a o, H a = some o → H' a = some o
theorem Ex.refl (H : Hp) : Ex H H := fun _ _ h => h
theorem Ex.trans {H H1 H2 : Hp} (a : Ex H H1) (b : Ex H1 H2) : Ex H H2 := fun x o h => b x o (a x o h)
theorem Ex.new {H : Hp} {p : Addr} {o : HO} (h : H p = none) : Ex H (upd H p o) := fun a u e => by
  rw [upd_ne (ne_of_none e h)]
  exact e
theorem Ex.upd {B H : Hp} {p : Addr} {o : HO} (e : Ex B H) (h : B p = none) : Ex B (upd H p o) := fun a u ha => by
  rw [upd_ne (ne_of_none ha h)]
  exact e a u ha
theorem Ex.both {B H : Hp} {p : Addr} {o : HO} (e : Ex B H) : Ex (L2.upd B p o) (L2.upd H p o) := fun a u ha => by
  by_cases q : a = p
  · subst q; rw [upd_same] at ha; cases ha; exact upd_same
  · rw [upd_ne q] at ha; rw [upd_ne q]; exact e a u ha
theorem Ex.none {H H' : Hp} {p : Addr} (e : Ex H H') (h : H' p = none) : H p = none := by
  cases h1 : H p with
  | none => rfl
  | some o => rw [e p o h1] at h; cases h
theorem Ex.rd {H H' : Hp} {a : Addr} {u : HO} (e : Ex H H') (h : Rd H a u) : Rd H' a u := by
  rcases h with h | ⟨o, h⟩
  · exact Or.inl (e a _ h)
  · exact Or.inr ⟨o, e a _ h⟩
theorem Ex.l {K : PySem.W.Frag} {H H' : Hp} {a : Addr} {xs : List V} (e : Ex H H') (h : SqL K H a xs) : SqL K H' a xs := by
  rcases h with h | h
  · exact Or.inl (e.rd h)
  · exact Or.inr h
theorem Ex.t {K : PySem.W.Frag} {H H' : Hp} {a : Addr} {xs : List V} (e : Ex H H') (h : SqT K H a xs) : SqT K H' a xs := by
  rcases h with h | h
  · exact Or.inl (e.rd h)
  · exact Or.inr h

mutual
/-- v stands for d -/
inductive Rep (K : PySem.W.Frag) (B : Hp) : V → D → Prop where
  | non : Rep K B .non .non
  | bl (b : Bool) : Rep K B (.bl b) (.bl b)
  | int (i : Int) : Rep K B (.int i) (.int i)
  | str (x : Str) : Rep K B (.str x) (.str x)
  | lst {p : Addr} {xs : List V} {ds : List D} (h : SqL K B p xs) (r : RepL K B xs ds) : Rep K B (.ref p) (.lst ds)
  | tup {p : Addr} {xs : List V} {ds : List D} (h : SqT K B p xs) (r : RepL K B xs ds) : Rep K B (.ref p) (.tup ds)
  | dic {p : Addr} {kvs : List (Key × V)} {ds : List (Key × D)} (h : B p = some (.dK kvs)) (r : RepK K B kvs ds) : Rep K B (.ref p) (.dic ds)
  | obj {p C dx : Addr} {nm : Str} {fs : List (Str × V)} {ds : List (Str × D)} (h : B p = some (.ins C dx fs)) (k : KC K nm C) (r : RepF K B fs ds) : Rep K B (.ref p) (.obj nm ds)
inductive RepL (K : PySem.W.Frag) (B : Hp) : List V → List D → Prop where
  | nil : RepL K B [] []
  | cons {v : V} {d : D} {vs : List V} {ds : List D} (h : Rep K B v d) (t : RepL K B vs ds) : RepL K B (v :: vs) (d :: ds)
inductive RepK (K : PySem.W.Frag) (B : Hp) : List (Key × V) → List (Key × D) → Prop where
  | nil : RepK K B [] []
  | cons {k : Key} {v : V} {d : D} {vs : List (Key × V)} {ds : List (Key × D)} (h : Rep K B v d) (t : RepK K B vs ds) : RepK K B ((k, v) :: vs) ((k, d) :: ds)
inductive RepF (K : PySem.W.Frag) (B : Hp) : List (Str × V) → List (Str × D) → Prop where
  | nil : RepF K B [] []
  | cons {k : Str} {v : V} {d : D} {vs : List (Str × V)} {ds : List (Str × D)} (h : Rep K B v d) (t : RepF K B vs ds) : RepF K B ((k, v) :: vs) ((k, d) :: ds)
end
section
variable {K : PySem.W.Frag} {B B' H : Hp}
mutual
theorem Rep.mono (e : Ex B B') : ∀ {v : V} {d : D}, Rep K B v d → Rep K B' v d
  | _, _, .non => .non
  | _, _, .bl b => .bl b
  | _, _, .int i => .int i
  | _, _, .str x => .str x
  | _, _, .lst h r => .lst (e.l h) (RepL.mono e r)
  | _, _, .tup h r => .tup (e.t h) (RepL.mono e r)
  | _, _, .dic h r => .dic (e _ _ h) (RepK.mono e r)
  | _, _, .obj h k r => .obj (e _ _ h) k (RepF.mono e r)
theorem RepL.mono (e : Ex B B') : ∀ {vs : List V} {ds : List D}, RepL K B vs ds → RepL K B' vs ds
  | _, _, .nil => .nil
  | _, _, .cons h t => .cons (Rep.mono e h) (RepL.mono e t)
theorem RepK.mono (e : Ex B B') : ∀ {vs : List (Key × V)} {ds : List (Key × D)}, RepK K B vs ds → RepK K B' vs ds
  | _, _, .nil => .nil
  | _, _, .cons h t => .cons (Rep.mono e h) (RepK.mono e t)
theorem RepF.mono (e : Ex B B') : ∀ {vs : List (Str × V)} {ds : List (Str × D)}, RepF K B vs ds → RepF K B' vs ds
  | _, _, .nil => .nil
  | _, _, .cons h t => .cons (Rep.mono e h) (RepF.mono e t)
end
theorem RepL.length : ∀ {vs : List V} {ds : List D}, RepL K B vs ds → vs.length = ds.length
  | _, _, .nil => rfl
  | _, _, .cons _ t => congrArg Nat.succ (RepL.length t)
theorem RepL.get : ∀ {vs : List V} {ds : List D} {i : Nat} {d : D}, RepL K B vs ds → ds[i]? = some d → ∃ v, vs[i]? = some v ∧ Rep K B v d
  | _, _, _, _, .nil, e => by simp at e
  | _, _, 0, _, .cons r _, e => by simp at e; subst e; exact ⟨_, rfl, r⟩
  | _, _, i + 1, x, .cons _ t, e => by
    obtain ⟨u, h1, h2⟩ := RepL.get (i := i) (d := x) t (by simpa using e)
    exact ⟨u, by simpa using h1, h2⟩
theorem RepL.append : ∀ {vs ws : List V} {ds es : List D}, RepL K B vs ds → RepL K B ws es → RepL K B (vs ++ ws) (ds ++ es)
  | _, _, _, _, .nil, s => s
  | _, _, _, _, .cons r t, s => .cons r (RepL.append t s)
theorem RepL.at {vs : List V} {ds : List D} {i : Int} {d : D} (r : RepL K B vs ds) (h : atI ds i = some d) : ∃ v, atI vs i = some v ∧ Rep K B v d := by
  unfold atI at h ⊢
  rw [r.length]
  cases e : ixN ds.length i with
  | none => rw [e] at h; cases h
  | some j => rw [e] at h; exact r.get h
theorem RepL.ints : ∀ (ns : List Int), RepL K B (ns.map V.int) (ns.map D.int)
  | [] => .nil
  | n :: r => .cons (.int n) (RepL.ints r)
theorem RepL.of_ints : ∀ {vs : List V} {ns : List Int}, RepL K B vs (ns.map D.int) → vs = ns.map V.int
  | [], [], _ => rfl
  | _ :: _, [], r => nomatch r
  | [], _ :: _, r => nomatch r
  | v :: vs, n :: ns, r => by
    cases r with
    | cons h t =>
      cases h
      rw [RepL.of_ints t]
      rfl
end

/-- from (B, H), what is known and the heap, to (B', H'), writing at most at W -/
structure Stp (W : List Addr) (B H B' H' : Hp) : Prop where
  ex : Ex B B'
  ok : Ex B' H'
  fr : ∀ a o, a ∉ W → H a = some o → H' a = some o
  al : ∀ a o, H a = some o → ∃ o', H' a = some o'
  nw : ∀ a o, B a = none → H a = some o → B' a = none
section
variable {W W' : List Addr} {B H B' H' B1 H1 B2 H2 : Hp} {p : Addr} {o : HO}
theorem Stp.refl (w : Ex B H) : Stp W B H B H := ⟨Ex.refl B, w, fun _ _ _ h => h, fun _ o h => ⟨o, h⟩, fun _ _ h _ => h⟩
theorem Stp.trans (a : Stp W B H B1 H1) (b : Stp W B1 H1 B2 H2) : Stp W B H B2 H2 :=
  ⟨a.ex.trans b.ex, b.ok, fun x o hx h => b.fr x o hx (a.fr x o hx h), fun x o h => let ⟨o1, h1⟩ := a.al x o h; b.al x o1 h1, fun x o hb h => let ⟨o1, h1⟩ := a.al x o h; b.nw x o1 (a.nw x o hb h) h1⟩
theorem Stp.w (a : Stp W B H B1 H1) (h : ∀ x, x ∈ W → x ∈ W') : Stp W' B H B1 H1 := ⟨a.ex, a.ok, fun x o hx e => a.fr x o (fun z => hx (h x z)) e, a.al, a.nw⟩
theorem Stp.w0 (a : Stp [] B H B1 H1) : Stp W B H B1 H1 := a.w fun _ h => nomatch h
/-- a new object that stays -/
theorem Stp.new (w : Ex B H) (h : H p = none) : Stp W B H (upd B p o) (upd H p o) :=
  ⟨Ex.new (w.none h), w.both, fun a u _ e => Ex.new h a u e, fun a u e => ⟨u, Ex.new h a u e⟩, fun a u hb e => by rw [upd_ne (ne_of_none e h)]; exact hb⟩
/-- a new object that may change -/
theorem Stp.newM (w : Ex B H) (h : H p = none) : Stp W B H B (upd H p o) :=
  ⟨Ex.refl B, w.upd (w.none h), fun a u _ e => Ex.new h a u e, fun a u e => ⟨u, Ex.new h a u e⟩, fun a u hb _ => hb⟩
/-- a changed object of W -/
theorem Stp.set (w : Ex B H) (hp : p ∈ W) (hb : B p = none) {u : HO} (hu : H p = some u) : Stp W B H B (upd H p o) :=
  ⟨Ex.refl B, w.upd hb, fun a u hx e => by rw [upd_ne (fun z => hx (by rw [z]; exact hp))]; exact e, fun a u e => by
    by_cases q : a = p
    · subst q; exact ⟨o, upd_same⟩
    · exact ⟨u, by rw [upd_ne q]; exact e⟩, fun _ _ h _ => h⟩
/-- an object of our own, made behind the entry, changed -/
theorem Stp.own (a : Stp W B H B1 H1) (h0 : H p = none) (hb : B1 p = none) (h : ∃ u, H1 p = some u) : Stp W B H B1 (upd H1 p o) :=
  ⟨a.ex, a.ok.upd hb, fun x u hx e => by rw [upd_ne (ne_of_none e h0)]; exact a.fr x u hx e, fun x u e => by
    rw [upd_ne (ne_of_none e h0)]; exact a.al x u e, a.nw⟩
/-- an object of our own turns into one that stays -/
theorem Stp.keep (w : Ex B H) (a : Stp W B H B1 H1) (h0 : H p = none) (hb : B1 p = none) (h : H1 p = some o) : Stp W B H (upd B1 p o) H1 :=
  ⟨fun x u e => by rw [upd_ne (ne_of_none e (w.none h0))]; exact a.ex x u e, fun x u e => by
    by_cases q : x = p
    · subst q; rw [upd_same] at e; cases e; exact h
    · rw [upd_ne q] at e; exact a.ok x u e, a.fr, a.al, fun x u hb e => by rw [upd_ne (ne_of_none e h0)]; exact a.nw x u hb e⟩
end
/-! ### mirrors -/
/-- an error that is raised: the class's name, what it is told -/
structure Err where
  cls : Str
  args : List D := []
/-- what a mirror gives: a value, an error, or a place that the model does not serve -/
inductive Res (α : Type) where
  | ok (a : α) | err (e : Err) | stuck
def Res.bind {α β : Type} (m : Res α) (k : α → Res β) : Res β := match m with | .ok a => k a | .err e => .err e | .stuck => .stuck
/-- an error that nobody waits for -/
def Res.noErr {α : Type} (m : Res α) : Res α := match m with | .ok a => .ok a | _ => .stuck
instance : Monad Res where
  pure := Res.ok
  bind := Res.bind
def Post0 {α : Type} (m : Res α) (P : α → Prop) (R : Err → Prop) : Prop := match m with | .ok a => P a | .err e => R e | .stuck => False
/-- what the mirror gives is wished for: a structure, so that nothing looks into it -/
structure Post {α : Type} (m : Res α) (P : α → Prop) (R : Err → Prop) : Prop where
  h0 : Post0 m P R
section
variable {α β : Type} {m : Res α} {P P' : α → Prop} {R R' : Err → Prop} {a : α}
theorem Post.mono (h : Post m P R) (hp : ∀ a, P a → P' a) (hr : ∀ e, R e → R' e) : Post m P' R' := by
  obtain ⟨h⟩ := h
  refine ⟨?_⟩
  cases m with
  | ok a => exact hp a h
  | err e => exact hr e h
  | stuck => exact h
theorem Post.bind {k : α → Res β} {P : β → Prop} (h : Post (m.bind k) P R) : Post m (fun a => Post (k a) P R) R := by
  obtain ⟨h⟩ := h
  refine ⟨?_⟩
  cases m
  · exact ⟨h⟩
  · exact h
  · exact h
theorem Post.noErr (h : Post m.noErr P R) : Post m P (fun _ => False) := by
  obtain ⟨h⟩ := h
  refine ⟨?_⟩
  cases m with
  | ok a => exact h
  | err e => exact h
  | stuck => exact h
theorem Post.ok (h : Post (.ok a) P R) : P a := h.h0
theorem Post.err {e : Err} (h : Post (.err e : Res α) P R) : R e := h.h0
theorem Post.elim {C : Prop} (h : Post (.stuck : Res α) P R) : C := False.elim h.h0
theorem Post.mk' (h : P a) : Post (.ok a) P R := ⟨h⟩
theorem Post.iteT {c : Bool} {m m' : Res α} (h : Post (if c = true then m else m') P R) (hc : c = true) : Post m P R := by
  rw [if_pos hc] at h; exact h
theorem Post.iteF {c : Bool} {m m' : Res α} (h : Post (if c = true then m else m') P R) (hc : c = false) : Post m' P R := by
  rw [hc, if_neg Bool.false_ne_true] at h; exact h
theorem Post.is {m' : Res α} (h : Post m P R) (e : m = m') : Post m' P R := e ▸ h
end
/-- an item -/
def ixR {α : Type} (l : List α) (i : Int) : Res α := match atI l i with | some x => .ok x | none => .stuck
theorem Post.ix {α β : Type} {l : List α} {i : Int} {k : α → Res β} {P : β → Prop} {R : Err → Prop} (h : Post ((ixR l i).bind k) P R) : ∃ x, atI l i = some x ∧ Post (k x) P R := by
  unfold ixR at h
  cases e : atI l i with
  | none => rw [e] at h; exact h.elim
  | some x => rw [e] at h; exact ⟨x, rfl, h⟩
/-- where c holds -/
def guardR {α : Type} (c : Prop) [Decidable c] (m : Res α) : Res α := if c then m else .stuck
theorem Post.guard {α : Type} {c : Prop} [Decidable c] {m : Res α} {P : α → Prop} {R : Err → Prop} (h : Post (guardR c m) P R) : c ∧ Post m P R := by
  unfold guardR at h
  by_cases e : c
  · rw [if_pos e] at h; exact ⟨e, h⟩
  · rw [if_neg e] at h; exact h.elim
instance (i j : Int) : Decidable (CMulW i j) := by unfold CMulW; infer_instance
instance (i j : Int) : Decidable (CDivW i j) := by unfold CDivW; infer_instance
/-- a loop's turn: on, or a value that is returned, or out -/
inductive Fl (S R : Type) where
  | nx (s : S) | rt (r : R) | bk (s : S)
def forR {α S R : Type} : List α → S → (α → S → Res (Fl S R)) → Res (Fl S R)
  | [], s, _ => .ok (.nx s)
  | x :: xs, s, f => (f x s).bind fun r => match r with | .nx s' => forR xs s' f | r => .ok r
theorem Post.forS {α S R : Type} {l : List α} {i : Nat} {s : S} {f : α → S → Res (Fl S R)} {P : Fl S R → Prop} {E : Err → Prop} {x : α} (h : Post (forR (l.drop i) s f) P E) (hx : l[i]? = some x) :
    Post (f x s) (fun r => match r with | .nx s' => Post (forR (l.drop (i + 1)) s' f) P E | .rt v => P (.rt v) | .bk s' => P (.bk s')) E := by
  obtain ⟨hi, e⟩ := List.getElem?_eq_some_iff.mp hx
  rw [List.drop_eq_getElem_cons hi, e] at h
  exact (Post.bind h).mono (fun r q => by
    cases r
    · exact q
    · exact q.ok
    · exact q.ok) fun _ q => q
theorem Post.forN {α S R : Type} {l : List α} {i : Nat} {s : S} {f : α → S → Res (Fl S R)} {P : Fl S R → Prop} {E : Err → Prop} (h : Post (forR (l.drop i) s f) P E) (hi : l.length ≤ i) : P (.nx s) := by
  rw [List.drop_eq_nil_of_le hi] at h
  exact h.ok

/-! ### what stands for data -/
class Enc (α : Type) where
  enc : α → D
open Enc (enc)
structure Tp1 (α : Type) where
  a : α
structure Tp2 (α β : Type) where
  a : α
  b : β
structure Tp3 (α β γ : Type) where
  a : α
  b : β
  c : γ
structure Tp4 (α β γ δ : Type) where
  a : α
  b : β
  c : γ
  d : δ
structure Tp5 (α β γ δ ε : Type) where
  a : α
  b : β
  c : γ
  d : δ
  e : ε
instance : Enc Int := ⟨.int⟩
instance : Enc Bool := ⟨.bl⟩
instance : Enc Str := ⟨.str⟩
instance : Enc Unit := ⟨fun _ => .non⟩
instance : Enc D := ⟨id⟩
instance {α : Type} [Enc α] : Enc (List α) := ⟨fun l => .lst (l.map enc)⟩
instance {α : Type} [Enc α] : Enc (Option α) := ⟨fun o => match o with | some x => enc x | none => .non⟩
instance {α : Type} [Enc α] : Enc (Tp1 α) := ⟨fun t => .tup [enc t.a]⟩
instance {α β : Type} [Enc α] [Enc β] : Enc (Tp2 α β) := ⟨fun t => .tup [enc t.a, enc t.b]⟩
instance {α β γ : Type} [Enc α] [Enc β] [Enc γ] : Enc (Tp3 α β γ) := ⟨fun t => .tup [enc t.a, enc t.b, enc t.c]⟩
instance {α β γ δ : Type} [Enc α] [Enc β] [Enc γ] [Enc δ] : Enc (Tp4 α β γ δ) := ⟨fun t => .tup [enc t.a, enc t.b, enc t.c, enc t.d]⟩
instance {α β γ δ ε : Type} [Enc α] [Enc β] [Enc γ] [Enc δ] [Enc ε] : Enc (Tp5 α β γ δ ε) := ⟨fun t => .tup [enc t.a, enc t.b, enc t.c, enc t.d, enc t.e]⟩

/-- a list that may change: at p, outside of what is known for good -/
def Mu (K : PySem.W.Frag) (B H : Hp) (p : Addr) (ds : List D) : Prop := B p = none ∧ ∃ xs, H p = some (.lst xs) ∧ RepL K B xs ds
/-- a list that stands in the written part -/
def KL (K : PySem.W.Frag) (a : Addr) (xs : List V) : Prop := ∃ (o : Obj) (its : Array Value) (n : Nat), K.lookup a = some o ∧ o.cls = .type "list" ∧ o.dict = none ∧ o.data = .seq its n ∧ its.size ≤ sizeLine ∧ Vals xs its.toList
/-- a list that is read: at v now -/
def Bor (K : PySem.W.Frag) (B H : Hp) (W : List Addr) (v : V) (ds : List D) : Prop := ∃ p xs, v = .ref p ∧ ((Rd H p (.lst xs) ∧ p ∉ W) ∨ KL K p xs) ∧ RepL K B xs ds
/-- what a return hands on -/
def Ret (K : PySem.W.Frag) (W : List Addr) (B H : Hp) (d : D) (Q : VK) : Prop := ∀ v B' H', Stp W B H B' H' → Rep K B' v d → Q v H'
/-- .. where the list at p may have changed -/
def RetM (K : PySem.W.Frag) (p : Addr) (B H : Hp) (d : D) (ds : List D) (Q : VK) : Prop := ∀ v B' H', Stp [p] B H B' H' → Mu K B' H' p ds → Rep K B' v d → Q v H'
/-- .. that is raised -/
def Rai (mg : Str → Option Value) (W : List Addr) (B H : Hp) (e : Err) (E : XK) : Prop := ∀ C B' H', mg e.cls = some (.ref C) → Stp W B H B' H' → E (.ref C) none H'
section
variable {K : PySem.W.Frag} {B B' B1 H H' H1 : Hp} {W : List Addr} {p q : Addr} {ds es : List D} {xs : List V} {d : D} {v : V} {Q : VK} {mg : Str → Option Value} {E : XK}
theorem Mu.step (m : Mu K B H p ds) (s : Stp W B H B' H') (h : p ∉ W) : Mu K B' H' p ds := by
  obtain ⟨hb, xs, hp, r⟩ := m
  exact ⟨s.nw p _ hb hp, xs, s.fr p _ h hp, r.mono s.ex⟩
theorem Mu.new (w : Ex B H) (h : H p = none) (r : RepL K B xs ds) : Mu K B (upd H p (.lst xs)) p ds := ⟨w.none h, xs, upd_same, r⟩
theorem Mu.bor (m : Mu K B H p ds) (h : p ∉ W) : Bor K B H W (.ref p) ds := by
  obtain ⟨hb, xs, hp, r⟩ := m
  exact ⟨p, xs, rfl, .inl ⟨.inl hp, h⟩, r⟩
theorem Mu.ne (m : Mu K B H p ds) (h : H q = none) : p ≠ q := by
  obtain ⟨hb, xs, hp, r⟩ := m
  exact ne_of_none hp h
theorem Bor.step (m : Bor K B H W v ds) (s : Stp W B H B' H') : Bor K B' H' W v ds := by
  obtain ⟨p, xs, e, hp, r⟩ := m
  refine ⟨p, xs, e, ?_, r.mono s.ex⟩
  rcases hp with ⟨hp | ⟨o, hp⟩, hw⟩ | hp
  · exact .inl ⟨.inl (s.fr p _ hw hp), hw⟩
  · exact .inl ⟨.inr ⟨o, s.fr p _ hw hp⟩, hw⟩
  · exact .inr hp
theorem Bor.w {W' : List Addr} (m : Bor K B H W v ds) (h : ∀ x, x ∈ W' → x ∈ W) : Bor K B H W' v ds := by
  obtain ⟨p, xs, e, hp, r⟩ := m
  refine ⟨p, xs, e, ?_, r⟩
  rcases hp with ⟨hp, hw⟩ | hp
  · exact .inl ⟨hp, fun z => hw (h p z)⟩
  · exact .inr hp
theorem Bor.sq (m : Bor K B H W v ds) : ∃ p xs, v = .ref p ∧ SqL K H p xs ∧ RepL K B xs ds := by
  obtain ⟨p, xs, e, hp, r⟩ := m
  refine ⟨p, xs, e, ?_, r⟩
  rcases hp with ⟨hp, _⟩ | hp
  · exact .inl hp
  · exact .inr hp
theorem Rep.bor (w : Ex B H) (r : Rep K B v (.lst ds)) (h : ∀ x, x ∈ W → B x = none) : Bor K B H W v ds := by
  cases r with
  | @lst p xs _ hp r =>
    refine ⟨p, xs, rfl, ?_, r⟩
    rcases hp with hp | hp
    · refine .inl ⟨w.rd hp, fun z => ?_⟩
      have e := h p z
      rcases hp with hp | ⟨o, hp⟩
      · rw [hp] at e; cases e
      · rw [hp] at e; cases e
    · exact .inr hp
theorem Rep.bor0 (w : Ex B H) (r : Rep K B v (.lst ds)) : Bor K B H [] v ds := r.bor w (fun _ z => nomatch z)
theorem Rep.sq (w : Ex B H) (r : Rep K B v (.lst ds)) : ∃ p xs, v = .ref p ∧ SqL K H p xs ∧ RepL K B xs ds := by
  cases r with
  | @lst p xs _ hp r => exact ⟨p, xs, rfl, w.l hp, r⟩
theorem Rep.st (w : Ex B H) (r : Rep K B v (.tup ds)) : ∃ p xs, v = .ref p ∧ SqT K H p xs ∧ RepL K B xs ds := by
  cases r with
  | @tup p xs _ hp r => exact ⟨p, xs, rfl, w.t hp, r⟩
theorem Mu.sq (m : Mu K B H p ds) : ∃ xs, H p = some (.lst xs) ∧ SqL K H p xs ∧ RepL K B xs ds := by
  obtain ⟨hb, xs, hp, r⟩ := m
  exact ⟨xs, hp, SqL.of hp, r⟩
theorem Stp.mut (w : Ex B H) (m : Mu K B H p ds) (r : RepL K B xs es) : Stp [p] B H B (upd H p (.lst xs)) ∧ Mu K B (upd H p (.lst xs)) p es := by
  obtain ⟨hb, ys, hp, _⟩ := m
  exact ⟨Stp.set w (by simp) hb hp, hb, xs, upd_same, r⟩
end
/-- the built-in type of a thing -/
def tyD : D → String
  | .non => "NoneType" | .bl _ => "bool" | .int _ => "int" | .str _ => "str" | .lst _ => "list" | .tup _ => "tuple" | .dic _ => "dict" | .obj _ _ => "object"
def isObjD : D → Bool | .obj _ _ => true | _ => false
theorem Rep.ty {K : PySem.W.Frag} {B H : Hp} {v : V} {d : D} (w : Ex B H) (r : Rep K B v d) (hd : isObjD d = false) : TyX K H v (.type (tyD d)) := by
  cases r with
  | obj h k r => exact nomatch hd
  | non => exact .base .non
  | bl b => exact .base (.bl b)
  | int i => exact .base (.int i)
  | str x => exact .base (.str x)
  | lst h r =>
    rcases h with (h | ⟨o, h⟩) | ⟨o, its, n, h, hc, _⟩
    · exact .base (.lst (w _ _ h))
    · exact .base (.frz (w _ _ h))
    · exact .kList h hc
  | tup h r =>
    rcases h with (h | ⟨o, h⟩) | ⟨o, its, n, h, hc, _⟩
    · exact .base (.tup (w _ _ h))
    · exact .fTuple (w _ _ h)
    · exact .kTuple h hc
  | dic h r => exact .base (.dK (w _ _ h))
def isS (s t : String) : Bool := s == t || (s == "bool" && t == "int")
def isA (t : String) (d : D) : Bool := isS (tyD d) t
theorem kit_tab : ∀ s ∈ ["NoneType", "bool", "int", "str", "list", "tuple", "dict"], ∀ t ∈ ["bool", "int", "str", "list", "tuple", "dict"], kitB s t = some (isS s t) := by decide +kernel
theorem tyD_in (d : D) (hd : isObjD d = false) : tyD d ∈ ["NoneType", "bool", "int", "str", "list", "tuple", "dict"] := by
  cases d
  case obj => exact nomatch hd
  all_goals simp [tyD]
theorem isS_obj : ∀ t ∈ ["bool", "int", "str", "list", "tuple", "dict"], isS "object" t = false := by decide +kernel
theorem meta_tab : ∀ t ∈ ["bool", "int", "str", "list", "tuple", "dict"], PySem.W.kitMeta t = true := by decide +kernel
theorem KC.kit {K : PySem.W.Frag} {nm : Str} {C : Addr} (k : KC K nm C) {t : String} (ht : t ∈ ["bool", "int", "str", "list", "tuple", "dict"]) : PySem.W.kitOne K (.ref C) (.type t) = some false := by
  unfold PySem.W.kitOne
  rw [if_neg (by simp)]
  show (if PySem.W.kitMeta t = true then PySem.W.subIn K (.ref C) (.type t) else none) = some false
  rw [if_pos (meta_tab t ht)]
  exact k.bt t ht
theorem KC.tyx {K : PySem.W.Frag} {nm : Str} {C p dx : Addr} {H : Hp} {fs : List (Str × V)} (k : KC K nm C) (h : H p = some (.ins C dx fs)) : TyX K H (.ref p) (.ref C) := .base (.ins h k.c k.ha k.hn k.ht k.hm)
/-- isinstance(x, int | bool | str | list | tuple | dict) -/
theorem isi {K : PySem.W.Frag} {B H : Hp} {v : V} {d : D} {t : String} {Q : VK} (w : Ex B H) (r : Rep K B v d) (q : Q (.bl (isA t d)) H) (ht : t ∈ ["bool", "int", "str", "list", "tuple", "dict"] := by simp) : rIsi K [v, .ty t] H Q := by
  by_cases hd : isObjD d = true
  · cases r with
    | @obj p C dx nm fs ds h k r =>
      have e : isA t (.obj nm ds) = false := isS_obj t ht
      rw [e] at q
      exact ⟨_, .ty t, .ref C, .type t, false, rfl, .ty t, k.tyx (w _ _ h), k.kit ht, q⟩
    | _ => exact nomatch hd
  · have hd := Bool.eq_false_iff.mpr hd
    exact ⟨v, .ty t, _, .type t, isA t d, rfl, .ty t, r.ty w hd, kit_ty (kit_tab _ (tyD_in d hd) _ ht), q⟩
theorem boot_bool : bootBuiltins "bool" = some (.type "bool") := by decide +kernel
theorem boot_int : bootBuiltins "int" = some (.type "int") := by decide +kernel
theorem boot_str : bootBuiltins "str" = some (.type "str") := by decide +kernel
theorem boot_list : bootBuiltins "list" = some (.type "list") := by decide +kernel
theorem boot_tuple : bootBuiltins "tuple" = some (.type "tuple") := by decide +kernel
theorem boot_dict : bootBuiltins "dict" = some (.type "dict") := by decide +kernel

/-! ### readings, step by step -/
def NwL (xs : List V) (H : Hp) (Q : VK) : Prop := ∀ p, H p = none → Q (.ref p) (upd H p (.lst xs))
def NwT (xs : List V) (H : Hp) (Q : VK) : Prop := ∀ p, H p = none → Q (.ref p) (upd H p (.tup xs))
def NewL (xs : List V) (H : Hp) (Q : VK) : Prop := xs.length ≤ sizeLine ∧ NwL xs H Q
def NewT (xs : List V) (H : Hp) (Q : VK) : Prop := xs.length ≤ sizeLine ∧ NwT xs H Q
section
variable {K : PySem.W.Frag} {σ σ' : L2.St} {H : Hp} {Q : VK} {D' : Ends} {te ta tb tc : TE} {tt tt' : TT} {t u z : TS} {tl : TA} {v x y : V} {i j : Int} {n : Nat} {r r' : R2} {W : List Addr}
theorem h_seq (h : t { D' with nx := u D' } σ H) : tSeq t u D' σ H := h
theorem h_set (h : te σ H fun x H1 => u D' (σ.set n (some x)) H1) : tSeq (tAsg te (gName n)) u D' σ H := h
theorem h_set1 (h : te σ H fun x H1 => D'.nx (σ.set n (some x)) H1) : tAsg te (gName n) D' σ H := h
theorem h_nrm {T : L2.St → Hp → Prop} (h : T σ' H) (e : σ' = σ := by rfl) : T σ H := e ▸ h
theorem h_drop (h : te σ H fun _ H1 => D'.nx σ H1) : tDrop te D' σ H := h
theorem h_ret (h : te σ H D'.rt) : tRet te D' σ H := h
theorem h_if {c : TT} (h : c σ H fun b H1 => if b = true then t D' σ H1 else u D' σ H1) : tIfS c t u D' σ H := h
theorem h_next (h : D'.nx σ H) : tNext D' σ H := h
theorem h_nx {a c d : L2.St → Hp → Prop} {b : VK} (h : a σ H) : (Ends.mk a b c d).nx σ H := h
theorem h_var (e : σ[n]? = some (some v)) (h : Q v H) : tVar n σ H Q := ⟨v, e, h⟩
theorem h_c (h : Q v H) : tC v σ H Q := h
theorem h_op (h : ta σ H fun x H1 => tb σ H1 fun y H2 => r x y H2 Q) : tOp r ta tb σ H Q := h
theorem h_I0 {g : Int → Int → V} (h : Q (g i j) H) : rI0 g (.int i) (.int j) H Q := ⟨i, j, rfl, rfl, h⟩
theorem h_I {C : Int → Int → Prop} {g : Int → Int → V} (c : C i j) (h : Q (g i j) H) : rI C g (.int i) (.int j) H Q := ⟨i, j, rfl, rfl, c, h⟩
theorem h_un {f : V → Hp → VK → Prop} (h : ta σ H fun x H1 => f x H1 Q) : tUn f ta σ H Q := h
theorem h_U {g : Int → V} (h : Q (g i) H) : rU g (.int i) H Q := ⟨i, rfl, h⟩
theorem h_eq (s : scal x y = true) (h : Q (.bl (decide (x = y))) H) : rEq x y H Q := ⟨s, h⟩
theorem h_ne (s : scal x y = true) (h : Q (.bl (!decide (x = y))) H) : rNe x y H Q := ⟨s, h⟩
theorem dec_i : decide (V.int i = V.int j) = decide (i = j) := by simp
theorem dec_b {i j : Bool} : decide (V.bl i = V.bl j) = decide (i = j) := by simp
theorem dec_s {i j : Str} : decide (V.str i = V.str j) = decide (i = j) := by simp
theorem h_eqI (h : Q (.bl (decide (i = j))) H) : rEq (.int i) (.int j) H Q := ⟨rfl, by rw [dec_i]; exact h⟩
theorem h_neI (h : Q (.bl (!decide (i = j))) H) : rNe (.int i) (.int j) H Q := ⟨rfl, by rw [dec_i]; exact h⟩
theorem h_eqS {i j : Str} (h : Q (.bl (decide (i = j))) H) : rEq (.str i) (.str j) H Q := ⟨rfl, by rw [dec_s]; exact h⟩
theorem h_neS {i j : Str} (h : Q (.bl (!decide (i = j))) H) : rNe (.str i) (.str j) H Q := ⟨rfl, by rw [dec_s]; exact h⟩
theorem h_eqB {i j : Bool} (h : Q (.bl (decide (i = j))) H) : rEq (.bl i) (.bl j) H Q := ⟨rfl, by rw [dec_b]; exact h⟩
theorem h_neB {i j : Bool} (h : Q (.bl (!decide (i = j))) H) : rNe (.bl i) (.bl j) H Q := ⟨rfl, by rw [dec_b]; exact h⟩
theorem h_chain (h : ta σ H fun x H1 => tb σ H1 fun y H2 => r x y H2 fun z H3 => ∃ k, z = .bl k ∧ (if k = true then tc σ H3 fun w' H4 => r' y w' H4 Q else Q (.bl false) H3)) : tChain r r' ta tb tc σ H Q := h
theorem h_chk {k : Bool} {A : Prop} {w : V} {f : Bool → Prop} (hw : w = .bl k) (h : f k) : ∃ k, w = .bl k ∧ f k := ⟨k, hw, h⟩
theorem h_and (h : ta σ H fun x H1 => ∃ c, x = .bl c ∧ if c = true then tb σ H1 Q else Q (.bl false) H1) : tAndV ta tb σ H Q := h
theorem h_or (h : ta σ H fun x H1 => ∃ c, x = .bl c ∧ if c = true then Q (.bl true) H1 else tb σ H1 Q) : tOrV ta tb σ H Q := h
theorem h_not (h : ta σ H fun x H1 => ∃ c, x = .bl c ∧ Q (.bl (!c)) H1) : tNotV ta σ H Q := h
theorem h_tand {Q : Bool → Hp → Prop} (h : tt σ H fun c H1 => if c = true then tt' σ H1 Q else Q false H1) : tAnd tt tt' σ H Q := h
theorem h_tor {Q : Bool → Hp → Prop} (h : tt σ H fun c H1 => if c = true then Q true H1 else tt' σ H1 Q) : tOr tt tt' σ H Q := h
theorem h_tnot {Q : Bool → Hp → Prop} (h : tt σ H fun c H1 => Q (!c) H1) : tNot tt σ H Q := h
theorem h_test {Q : Bool → Hp → Prop} (h : te σ H fun x H' => ∃ k, x = .bl k ∧ Q k H') : tTest te σ H Q := h
theorem h_tB {Q : Bool → Hp → Prop} (h : te σ H fun x H' => ∃ k, x = .bl k ∧ Q k H') : tB te σ H Q := h
theorem h_bl {b : Bool} {f : Bool → Prop} (h : f b) : ∃ k, V.bl b = .bl k ∧ f k := ⟨b, rfl, h⟩
theorem h_iteT {A B : Prop} (h : A) : if true = true then A else B := by rw [if_pos rfl]; exact h
theorem h_iteF {A B : Prop} (h : B) : if false = true then A else B := by rw [if_neg Bool.false_ne_true]; exact h
theorem h_ite {b : Bool} {A B : Prop} (h1 : b = true → A) (h2 : b = false → B) : if b = true then A else B := by
  cases b
  · exact h_iteF (h2 rfl)
  · exact h_iteT (h1 rfl)
theorem h_ifE {c : TT} (h : c σ H fun b H1 => if b = true then ta σ H1 Q else tb σ H1 Q) : tIf c ta tb σ H Q := h
theorem h_nil {Q : List V → Hp → Prop} (h : Q [] H) : tNil σ H Q := h
theorem h_cons {Q : List V → Hp → Prop} (h : te σ H fun x H1 => tl σ H1 fun xs H2 => Q (x :: xs) H2) : tCons te tl σ H Q := h
theorem h_cb {f : List V → Hp → VK → Prop} (h : tl σ H fun vs H1 => f vs H1 Q) : tCB f tl σ H Q := h
theorem h_call {sp : Sp} {dvs : List V} {E : XK} (h : tl σ H fun vs H1 => sp (vs ++ dvs) H1 Q E) : tCall sp dvs E tl σ H Q := h
theorem h_callS {sp : Sp} {E : L2.St → XK} (h : tl σ H fun vs H1 => sp vs H1 Q (E σ)) : tCallS sp E tl σ H Q := h
theorem h_tup (h : tl σ H fun xs H1 => NewT xs H1 Q) : tTup tl σ H Q := h
theorem h_lst (h : tl σ H fun xs H1 => NewL xs H1 Q) : tLst tl σ H Q := h
theorem h_ixL {p : Addr} {xs : List V} (s : SqL K H p xs) (e : atI xs i = some v) (h : Q v H) : rIxL K (.ref p) (.int i) H Q := ⟨p, xs, i, v, rfl, rfl, s, e, h⟩
theorem h_ixT {p : Addr} {xs : List V} (s : SqT K H p xs) (e : atI xs i = some v) (h : Q v H) : rIxT K (.ref p) (.int i) H Q := ⟨p, xs, i, v, rfl, rfl, s, e, h⟩
end

section
variable {K : PySem.W.Frag} {σ : L2.St} {B B1 B' H H1 H' B0 H0 : Hp} {Q : VK} {W W' : List Addr} {p q : Addr} {xs ys : List V} {ds es : List D} {v : V} {d : D} {i j : Int} {te ta tb : TE}
theorem h_newL (w : Ex B H) (r : RepL K B xs ds) (h : ∀ p B' H', Stp [] B H B' H' → Rep K B' (.ref p) (.lst ds) → Q (.ref p) H') (hn : xs.length ≤ sizeLine) : NewL xs H Q :=
  ⟨hn, fun p hp => h p _ _ (Stp.new w hp) (.lst (SqL.of upd_same) (r.mono (Ex.new (w.none hp))))⟩
theorem h_newT (w : Ex B H) (r : RepL K B xs ds) (h : ∀ p B' H', Stp [] B H B' H' → Rep K B' (.ref p) (.tup ds) → Q (.ref p) H') (hn : xs.length ≤ sizeLine) : NewT xs H Q :=
  ⟨hn, fun p hp => h p _ _ (Stp.new w hp) (.tup (SqT.of upd_same) (r.mono (Ex.new (w.none hp))))⟩
theorem h_newM (w : Ex B H) (r : RepL K B xs ds) (h : ∀ p H', H p = none → Stp [] B H B H' → Mu K B H' p ds → Q (.ref p) H') (hn : xs.length ≤ sizeLine) : NewL xs H Q :=
  ⟨hn, fun p hp => h p _ hp (Stp.newM w hp) (Mu.new w hp r)⟩
theorem h_nwL (w : Ex B H) (r : RepL K B xs ds) (h : ∀ p B' H', Stp [] B H B' H' → Rep K B' (.ref p) (.lst ds) → Q (.ref p) H') : NwL xs H Q :=
  fun p hp => h p _ _ (Stp.new w hp) (.lst (SqL.of upd_same) (r.mono (Ex.new (w.none hp))))
theorem h_nwT (w : Ex B H) (r : RepL K B xs ds) (h : ∀ p B' H', Stp [] B H B' H' → Rep K B' (.ref p) (.tup ds) → Q (.ref p) H') : NwT xs H Q :=
  fun p hp => h p _ _ (Stp.new w hp) (.tup (SqT.of upd_same) (r.mono (Ex.new (w.none hp))))
theorem h_nwM (w : Ex B H) (r : RepL K B xs ds) (h : ∀ p H', H p = none → Stp [] B H B H' → Mu K B H' p ds → Q (.ref p) H') : NwL xs H Q :=
  fun p hp => h p _ hp (Stp.newM w hp) (Mu.new w hp r)
/-- what was free now was free at the entry -/
theorem Stp.nn (s : Stp W B0 H0 B H) (h : H p = none) : H0 p = none := by
  cases e : H0 p with
  | none => rfl
  | some o => obtain ⟨u, q⟩ := s.al p o e; rw [h] at q; cases q
/-- a step that writes at an object of our own -/
theorem Stp.own2 (a : Stp W B0 H0 B H) (s : Stp [p] B H B' H') (h0 : H0 p = none) : Stp W B0 H0 B' H' :=
  ⟨a.ex.trans s.ex, s.ok, fun x u hx e => s.fr x u (fun z => by
      rw [List.mem_singleton.mp z, h0] at e; cases e) (a.fr x u hx e), fun x u e => let ⟨u1, e1⟩ := a.al x u e; s.al x u1 e1, fun x u hb e => let ⟨u1, e1⟩ := a.al x u e; s.nw x u1 (a.nw x u hb e) e1⟩
theorem nm0 : p ∉ ([] : List Addr) := fun z => nomatch z
theorem nm1 (h : p ≠ q) : p ∉ [q] := fun z => h (List.mem_singleton.mp z)
theorem sub0 : ∀ x, x ∈ ([] : List Addr) → x ∈ W := fun _ z => nomatch z
/-- a list of our own is kept as it is -/
theorem Mu.keep (m : Mu K B H p ds) : ∃ B', Ex B B' ∧ (∀ q, q ≠ p → B q = none → B' q = none) ∧ (∀ W B0 H0, Stp W B0 H0 B H → Ex B0 H0 → H0 p = none → Stp W B0 H0 B' H) ∧ Rep K B' (.ref p) (.lst ds) := by
  obtain ⟨hb, xs, hp, r⟩ := m
  exact ⟨upd B p (.lst xs), Ex.new hb, fun q n e => by rw [upd_ne n]; exact e, fun W B0 H0 st w0 h0 => Stp.keep w0 st h0 hb hp, .lst (SqL.of upd_same) (r.mono (Ex.new hb))⟩
/-- a step that writes at what may be written and at objects of our own -/
theorem Stp.go (a : Stp W B0 H0 B H) (s : Stp W' B H B' H') (h : ∀ p, p ∈ W' → p ∈ W ∨ H0 p = none) : Stp W B0 H0 B' H' :=
  ⟨a.ex.trans s.ex, s.ok, fun x u hx e => s.fr x u (fun z => by
      rcases h x z with q | q
      · exact hx q
      · rw [q] at e; cases e) (a.fr x u hx e), fun x u e => let ⟨u1, e1⟩ := a.al x u e; s.al x u1 e1, fun x u hb e => let ⟨u1, e1⟩ := a.al x u e; s.nw x u1 (a.nw x u hb e) e1⟩
theorem go0 {F : Addr → Prop} : ∀ x, x ∈ ([] : List Addr) → F x := fun _ z => nomatch z
theorem go1 {F : Addr → Prop} (h : F p) : ∀ x, x ∈ [p] → F x := fun x z => by rw [List.mem_singleton.mp z]; exact h
theorem go2 {F : Addr → Prop} (h : F p) (h' : F q) : ∀ x, x ∈ [p, q] → F x := fun x z => by
  rcases List.mem_cons.mp z with e | e
  · rw [e]; exact h
  · rw [List.mem_singleton.mp e]; exact h'
theorem go3 {F : Addr → Prop} {r : Addr} (h : F p) (h' : F q) (h2 : F r) : ∀ x, x ∈ [p, q, r] → F x := fun x z => by
  rcases List.mem_cons.mp z with e | e
  · rw [e]; exact h
  · exact go2 h' h2 x e
theorem go4 {F : Addr → Prop} {r r2 : Addr} (h : F p) (h' : F q) (h2 : F r) (h3 : F r2) : ∀ x, x ∈ [p, q, r, r2] → F x := fun x z => by
  rcases List.mem_cons.mp z with e | e
  · rw [e]; exact h
  · exact go3 h' h2 h3 x e
theorem nm2 {r : Addr} (h : p ≠ q) (h' : p ≠ r) : p ∉ [q, r] := fun z => by
  rcases List.mem_cons.mp z with e | e
  · exact h e
  · exact h' (List.mem_singleton.mp e)
theorem nm3 {r r2 : Addr} (h : p ≠ q) (h' : p ≠ r) (h2 : p ≠ r2) : p ∉ [q, r, r2] := fun z => by
  rcases List.mem_cons.mp z with e | e
  · exact h e
  · exact nm2 h' h2 e
theorem nm4 {r r2 r3 : Addr} (h : p ≠ q) (h' : p ≠ r) (h2 : p ≠ r2) (h3 : p ≠ r3) : p ∉ [q, r, r2, r3] := fun z => by
  rcases List.mem_cons.mp z with e | e
  · exact h e
  · exact nm3 h' h2 h3 e
theorem Mu.kp (m : Mu K B H q es) (e : Ex B B') (k : ∀ q, q ≠ p → B q = none → B' q = none) (n : q ≠ p) : Mu K B' H q es := by
  obtain ⟨hb, xs, hp, r⟩ := m
  exact ⟨k q n hb, xs, hp, r.mono e⟩
theorem RepL.atE {α : Type} [Enc α] {l : List α} {x : α} (r : RepL K B xs (l.map enc)) (h : atI l i = some x) : ∃ v, atI xs i = some v ∧ Rep K B v (enc x) := by
  refine r.at ?_
  unfold atI at h ⊢
  rw [List.length_map]
  cases e : ixN l.length i with
  | none => rw [e] at h; cases h
  | some k =>
    rw [e] at h
    show (l.map enc)[k]? = _
    rw [List.getElem?_map, show l[k]? = some x from h]
    rfl
theorem h_pow {k : Int} (e : i ^ j.toNat = k) (c : CPow i j) (h : Q (.int k) H) : rI CPow (fun i j => .int (i ^ j.toNat)) (.int i) (.int j) H Q := ⟨i, j, rfl, rfl, c, by show Q (.int (i ^ j.toNat)) H; rw [e]; exact h⟩
instance (i j : Int) : Decidable (CPow i j) := by unfold CPow; infer_instance
instance (i j : Int) : Decidable (CMul i j) := by unfold CMul; infer_instance
instance (i j : Int) : Decidable (CDiv i j) := by unfold CDiv; infer_instance
def absI (i : Int) : Int := if i < 0 then -i else i
def b2z (b : Bool) : Int := if b then 1 else 0
theorem h_isB {a b : Bool} (h : Q (.bl (decide (a = b))) H) : rIsB (.bl a) (.bl b) H Q := ⟨a, b, rfl, rfl, h⟩
theorem h_isnotB {a b : Bool} (h : Q (.bl (!decide (a = b))) H) : rNotB (.bl a) (.bl b) H Q := ⟨a, b, rfl, rfl, h⟩
def rLenY (K : PySem.W.Frag) : List V → Hp → VK → Prop := fun xs H Q => ∃ p ys, xs = [.ref p] ∧ (SqL K H p ys ∨ SqT K H p ys) ∧ Q (.int ys.length) H
def rAbsY : List V → Hp → VK → Prop := fun xs H Q => ∃ i, xs = [.int i] ∧ Q (.int (if i < 0 then -i else i)) H
def rIntY : List V → Hp → VK → Prop := fun xs H Q => (∃ i, xs = [.int i] ∧ Q (.int i) H) ∨ ∃ k, xs = [.bl k] ∧ Q (.int (if k then 1 else 0)) H
def rStrY : List V → Hp → VK → Prop := fun xs H Q => ∃ i, xs = [.int i] ∧ i.natAbs.log2 < 1920 ∧ Q (.str (toString i)) H
def rListY (K : PySem.W.Frag) : List V → Hp → VK → Prop := fun xs H Q => ∃ p ys, xs = [.ref p] ∧ (SqL K H p ys ∨ SqT K H p ys) ∧ ∀ l, H l = none → Q (.ref l) (upd H l (.lst ys))
def rTupY (K : PySem.W.Frag) : List V → Hp → VK → Prop := fun xs H Q => ∃ p ys, xs = [.ref p] ∧ ((SqL K H p ys ∧ ∀ l, H l = none → Q (.ref l) (upd H l (.tup ys))) ∨ (SqT K H p ys ∧ Q (.ref p) H))
theorem cr_len {X : Cx} : CallR X (.builtin "len") (rLenY X.K) := call_len_seq
theorem cr_abs {X : Cx} : CallR X (.builtin "abs") rAbsY := call_abs
theorem cr_int {X : Cx} : CallR X (.type "int") rIntY := call_int1
theorem cr_str {X : Cx} : CallR X (.type "str") rStrY := call_str_int
theorem cr_list {X : Cx} : CallR X (.type "list") (rListY X.K) := call_list_of
theorem cr_tuple {X : Cx} : CallR X (.type "tuple") (rTupY X.K) := call_tuple_of
theorem h_len {α : Type} [Enc α] {l : List α} (s : SqL K H p xs) (r : RepL K B xs (l.map enc)) (h : Q (.int l.length) H) : rLenY K [V.ref p] H Q := by
  refine ⟨p, xs, rfl, .inl s, ?_⟩
  rw [show xs.length = l.length from by rw [r.length, List.length_map]]
  exact h
theorem h_lenT (s : SqT K H p xs) (r : RepL K B xs ds) (h : Q (.int ds.length) H) : rLenY K [V.ref p] H Q := by
  refine ⟨p, xs, rfl, .inr s, ?_⟩
  rw [r.length]
  exact h
theorem h_abs (h : Q (.int (absI i)) H) : rAbsY [V.int i] H Q := ⟨i, rfl, h⟩
theorem h_intB {b : Bool} (h : Q (.int (b2z b)) H) : rIntY [V.bl b] H Q := .inr ⟨b, rfl, h⟩
theorem h_intI (h : Q (.int i) H) : rIntY [V.int i] H Q := .inl ⟨i, rfl, h⟩
theorem h_str (c : i.natAbs.log2 < 1920) (h : Q (.str (toString i)) H) : rStrY [V.int i] H Q := ⟨i, rfl, c, h⟩
theorem h_listL (s : SqL K H p xs) (h : NwL xs H Q) : rListY K [V.ref p] H Q := ⟨p, xs, rfl, .inl s, h⟩
theorem h_listT (s : SqT K H p xs) (h : NwL xs H Q) : rListY K [V.ref p] H Q := ⟨p, xs, rfl, .inr s, h⟩
theorem h_tupL (s : SqL K H p xs) (h : NwT xs H Q) : rTupY K [V.ref p] H Q := ⟨p, xs, rfl, .inl ⟨s, h⟩⟩
theorem h_iteN {b : Bool} {A C : Prop} (h1 : b = false → A) (h2 : b = true → C) : if (!b) = true then A else C := by
  cases b
  · exact h_iteT (h1 rfl)
  · exact h_iteF (h2 rfl)
theorem h_iteNT {A C : Prop} (h : C) : if (!true) = true then A else C := h_iteF h
theorem h_iteNF {A C : Prop} (h : A) : if (!false) = true then A else C := h_iteT h
theorem Post.iteTn {α : Type} {m m' : Res α} {P : α → Prop} {R : Err → Prop} {c : Bool} (h : Post (if (!c) = true then m else m') P R) (hc : c = false) : Post m P R := by
  rw [hc] at h; exact h
theorem Post.iteFn {α : Type} {m m' : Res α} {P : α → Prop} {R : Err → Prop} {c : Bool} (h : Post (if (!c) = true then m else m') P R) (hc : c = true) : Post m' P R := by
  rw [hc] at h; exact h
end

/-! ### joins, loops, comprehensions, in step with the mirror -/
section
variable {K : PySem.W.Frag} {σ : L2.St} {B B1 B' H H1 H' B0 H0 : Hp} {Q : VK} {W W' : List Addr} {p q : Addr} {xs ys : List V} {ds es : List D} {v : V} {d : D} {t z tb : TS} {te : TE} {c tt : TT} {D' : Ends} {g : TG} {ti : TI}
variable {α β S R' : Type} {P : β → Prop} {R : Err → Prop}
theorem h_joinS {m : Res α} {k : α → Res β} (hP : Post (m.bind k) P R) (J : α → L2.St → Hp → Prop)
    (h1 : ∀ N : L2.St → Hp → Prop, (∀ a σ' H', J a σ' H' → Post (k a) P R → N σ' H') → Post m (fun a => Post (k a) P R) R → t { D' with nx := N } σ H)
    (h2 : ∀ a σ' H', J a σ' H' → Post (k a) P R → z D' σ' H') : tSeq t z D' σ H := h1 _ h2 hP.bind
theorem h_condJ {m : Res Bool} {k : Bool → Res β} {Qb : Bool → Hp → Prop} (hP : Post (m.bind k) P R) (J : Hp → Prop)
    (h1 : ∀ N : Bool → Hp → Prop, (∀ b H', J H' → Post (k b) P R → N b H') → Post m (fun b => Post (k b) P R) R → c σ H N)
    (h2 : ∀ b H', J H' → Post (k b) P R → Qb b H') : c σ H Qb := h1 _ h2 hP.bind
theorem h_exprJ {m : Res α} {k : α → Res β} (hP : Post (m.bind k) P R) (J : α → V → Hp → Prop)
    (h1 : ∀ N : VK, (∀ a v H', J a v H' → Post (k a) P R → N v H') → Post m (fun a => Post (k a) P R) R → te σ H N)
    (h2 : ∀ a v H', J a v H' → Post (k a) P R → Q v H') : te σ H Q := h1 _ h2 hP.bind
theorem h_gname {n : Nat} {Q : L2.St → Hp → Prop} (h : Q (σ.set n (some v)) H) : gName n v σ H Q := h
/-- behind a loop -/
def afterR (k : S → Res β) : Fl S β → Res β
  | .nx s => k s | .rt r => .ok r | .bk s => k s
/-- a join of ways of which some end the def (or the turn) -/
theorem h_joinF {m : Res (Fl S β)} {k : S → Res β} (hP : Post (m.bind (afterR k)) P R) (J : S → L2.St → Hp → Prop)
    (h1 : ∀ (N : L2.St → Hp → Prop) (T : Fl S β → Prop), (∀ a σ' H', J a σ' H' → T (.nx a) → N σ' H') → (∀ r, T (.rt r) → P r) → Post m T R → t { D' with nx := N } σ H)
    (h2 : ∀ a σ' H', J a σ' H' → Post (k a) P R → z D' σ' H') : tSeq t z D' σ H :=
  h1 _ (fun a => Post (afterR k a) P R) (fun a σ' H' j q => h2 a σ' H' j q) (fun _ q => (q : Post (.ok _) P R).ok) hP.bind
/-- what a turn hands on -/
def turnR (l : List α) (f : α → S → Res (Fl S R')) (i : Nat) (P : Fl S R' → Prop) (R : Err → Prop) : Fl S R' → Prop
  | .nx s => Post (forR (l.drop i) s f) P R | .rt r => P (.rt r) | .bk s => P (.bk s)
theorem Post.turn {l : List α} {i : Nat} {s : S} {f : α → S → Res (Fl S R')} {P : Fl S R' → Prop} {x : α} (h : Post (forR (l.drop i) s f) P R) (hx : l[i]? = some x) : Post (f x s) (turnR l f (i + 1) P R) R :=
  (Post.forS h hx).mono (fun r q => by cases r <;> exact q) fun _ q => q

theorem h_forE (h : te σ H fun x H1 => tFor (iList K (tC x)) g tb D' σ H1) : tFor (iList K te) g tb D' σ H := h
theorem h_forL [Enc α] {l : List α} {s0 : S} {f : α → S → Res (Fl S β)} {k : S → Res β} (hP : Post ((forR l s0 f).bind (afterR k)) P R) (hs : SqL K H p xs) (hr : RepL K B xs (l.map enc))
    (J : S → L2.St → Hp → Prop) (h0 : J s0 σ H) (hl : ∀ s σ' H', J s σ' H' → SqL K H' p xs)
    (hb : ∀ (N : L2.St → Hp → Prop) (T : Fl S β → Prop) (x : α) v s σ' H', J s σ' H' → Rep K B v (enc x) → (∀ s' σ2 H2, J s' σ2 H2 → T (.nx s') → N σ2 H2) → (∀ r, T (.rt r) → P r) → (∀ s' σ2 H2, J s' σ2 H2 → T (.bk s') → D'.nx σ2 H2) → Post (f x s) T R →
      g v σ' H' fun σ2 H2 => tb { D' with nx := N, ct := N, bk := D'.nx } σ2 H2)
    (hd : ∀ s σ' H', J s σ' H' → Post (k s) P R → D'.nx σ' H') : tFor (iList K (tC (.ref p))) g tb D' σ H := by
  refine ⟨p, rfl, ⟨xs, hs⟩, for_list (K := K) (a := p) (xs := xs) (fun i σ' H' => ∃ s, J s σ' H' ∧ Post (forR (l.drop i) s f) (fun a => Post (afterR k a) P R) R) ⟨s0, h0, hP.bind⟩ (fun i σ' H' _ ⟨s, j, _⟩ => hl s σ' H' j) ?_ ?_⟩
  · rintro i y σ' H' hi ⟨s, j, q⟩
    obtain ⟨x, hx⟩ : ∃ x, l[i]? = some x := by
      have h1 := (List.getElem?_eq_some_iff.mp hi).1
      rw [hr.length, List.length_map] at h1
      exact ⟨l[i], List.getElem?_eq_getElem h1⟩
    obtain ⟨u, hu, ru⟩ := hr.get (i := i) (d := enc x) (by rw [List.getElem?_map, hx]; rfl)
    rw [hi] at hu; cases hu
    exact hb _ _ x y s σ' H' j ru (fun s' σ2 H2 j2 t2 => ⟨s', j2, t2⟩) (fun r t2 => (t2 : Post (.ok r) P R).ok) (fun s' σ2 H2 j2 t2 => hd s' σ2 H2 j2 t2) (q.turn hx)
  · rintro σ' H' ⟨s, j, q⟩
    exact hd s σ' H' j (q.forN (by rw [hr.length, List.length_map]; exact Nat.le_refl _))
theorem h_forTE (h : te σ H fun x H1 => tFor (iTup K (tC x)) g tb D' σ H1) : tFor (iTup K te) g tb D' σ H := h
theorem h_forT [Enc α] {l : List α} {s0 : S} {f : α → S → Res (Fl S β)} {k : S → Res β} (hP : Post ((forR l s0 f).bind (afterR k)) P R) (hs : SqT K H p xs) (hr : RepL K B xs (l.map enc))
    (J : S → L2.St → Hp → Prop) (h0 : J s0 σ H) (hl : ∀ s σ' H', J s σ' H' → SqT K H' p xs)
    (hb : ∀ (N : L2.St → Hp → Prop) (T : Fl S β → Prop) (x : α) v s σ' H', J s σ' H' → Rep K B v (enc x) → (∀ s' σ2 H2, J s' σ2 H2 → T (.nx s') → N σ2 H2) → (∀ r, T (.rt r) → P r) → (∀ s' σ2 H2, J s' σ2 H2 → T (.bk s') → D'.nx σ2 H2) → Post (f x s) T R →
      g v σ' H' fun σ2 H2 => tb { D' with nx := N, ct := N, bk := D'.nx } σ2 H2)
    (hd : ∀ s σ' H', J s σ' H' → Post (k s) P R → D'.nx σ' H') : tFor (iTup K (tC (.ref p))) g tb D' σ H := by
  refine ⟨p, rfl, ⟨xs, hs⟩, for_tup (K := K) (a := p) (xs := xs) (fun i σ' H' => ∃ s, J s σ' H' ∧ Post (forR (l.drop i) s f) (fun a => Post (afterR k a) P R) R) ⟨s0, h0, hP.bind⟩ (fun i σ' H' _ ⟨s, j, _⟩ => hl s σ' H' j) ?_ ?_⟩
  · rintro i y σ' H' hi ⟨s, j, q⟩
    obtain ⟨x, hx⟩ : ∃ x, l[i]? = some x := by
      have h1 := (List.getElem?_eq_some_iff.mp hi).1
      rw [hr.length, List.length_map] at h1
      exact ⟨l[i], List.getElem?_eq_getElem h1⟩
    obtain ⟨u, hu, ru⟩ := hr.get (i := i) (d := enc x) (by rw [List.getElem?_map, hx]; rfl)
    rw [hi] at hu; cases hu
    exact hb _ _ x y s σ' H' j ru (fun s' σ2 H2 j2 t2 => ⟨s', j2, t2⟩) (fun r t2 => (t2 : Post (.ok r) P R).ok) (fun s' σ2 H2 j2 t2 => hd s' σ2 H2 j2 t2) (q.turn hx)
  · rintro σ' H' ⟨s, j, q⟩
    exact hd s σ' H' j (q.forN (by rw [hr.length, List.length_map]; exact Nat.le_refl _))
/-- the ints from lo on, below hi -/
def rngI (lo hi : Int) : List Int := (List.range (hi - lo).toNat).map fun (i : Nat) => lo + (i : Int)
theorem rngI_get {lo hi : Int} {i : Nat} (h : i < (hi - lo).toNat) : (rngI lo hi)[i]? = some (lo + (i : Int)) := by
  unfold rngI
  rw [List.getElem?_map, List.getElem?_range h]
  rfl
theorem rngI_len {lo hi : Int} : (rngI lo hi).length = (hi - lo).toNat := by
  unfold rngI
  rw [List.length_map, List.length_range]
def Rng1 (vs : List V) (g : TG) (tb : TS) (D' : Ends) (σ : L2.St) (H : Hp) : Prop := tFor (iRng1 (fun _ H Q => Q vs H)) g tb D' σ H
def Rng2 (vs : List V) (g : TG) (tb : TS) (D' : Ends) (σ : L2.St) (H : Hp) : Prop := tFor (iRng2 (fun _ H Q => Q vs H)) g tb D' σ H
theorem h_rng1 {ta : TA} (h : ta σ H fun vs H1 => Rng1 vs g tb D' σ H1) : tFor (iRng1 ta) g tb D' σ H := h
theorem h_rng2 {ta : TA} (h : ta σ H fun vs H1 => Rng2 vs g tb D' σ H1) : tFor (iRng2 ta) g tb D' σ H := h
theorem forRng {lo hi : Int} {s0 : S} {f : Int → S → Res (Fl S β)} {k : S → Res β} (hP : Post ((forR (rngI lo hi) s0 f).bind (afterR k)) P R)
    (J : S → L2.St → Hp → Prop) (h0 : J s0 σ H)
    (hb : ∀ (N : L2.St → Hp → Prop) (T : Fl S β → Prop) (x : Int) s σ' H', J s σ' H' → lo ≤ x → x < hi → (∀ s' σ2 H2, J s' σ2 H2 → T (.nx s') → N σ2 H2) → (∀ r, T (.rt r) → P r) → (∀ s' σ2 H2, J s' σ2 H2 → T (.bk s') → D'.nx σ2 H2) → Post (f x s) T R →
      g (.int x) σ' H' fun σ2 H2 => tb { D' with nx := N, ct := N, bk := D'.nx } σ2 H2)
    (hd : ∀ s σ' H', J s σ' H' → Post (k s) P R → D'.nx σ' H') :
    ∃ W : Nat → Nat → L2.St → Hp → Prop, (∃ m, W 0 m σ H) ∧ ∀ i m σ H, W i m σ H →
      ((Itr lo (hi - lo).toNat).stop i H ∧ D'.nx σ H) ∨ ((Itr lo (hi - lo).toNat).go i H ∧ ∃ N : L2.St → Hp → Prop, (∀ σ' H', N σ' H' → ∃ m', m' < m ∧ W (i + 1) m' σ' H') ∧ ∀ x H', (Itr lo (hi - lo).toNat).yld i H x H' → g x σ H' fun σ2 H2 => tb { D' with nx := N, ct := N, bk := D'.nx } σ2 H2) := by
  refine for_range (lo := lo) (n := (hi - lo).toNat) (fun i σ' H' => ∃ s, J s σ' H' ∧ Post (forR ((rngI lo hi).drop i) s f) (fun a => Post (afterR k a) P R) R) ⟨s0, h0, hP.bind⟩ ?_ ?_
  · rintro i σ' H' hi' ⟨s, j, q⟩
    exact hb _ _ (lo + (i : Int)) s σ' H' j (by omega) (by omega) (fun s' σ2 H2 j2 t2 => ⟨s', j2, t2⟩) (fun r t2 => (t2 : Post (.ok r) P R).ok) (fun s' σ2 H2 j2 t2 => hd s' σ2 H2 j2 t2) (q.turn (rngI_get hi'))
  · rintro σ' H' ⟨s, j, q⟩
    exact hd s σ' H' j (q.forN (by rw [rngI_len]; exact Nat.le_refl _))
theorem h_forR1 {hi : Int} {s0 : S} {f : Int → S → Res (Fl S β)} {k : S → Res β} (hP : Post ((forR (rngI 0 hi) s0 f).bind (afterR k)) P R) (hz : -(2 ^ 62) ≤ hi ∧ hi < 2 ^ 62)
    (J : S → L2.St → Hp → Prop) (h0 : J s0 σ H)
    (hb : ∀ (N : L2.St → Hp → Prop) (T : Fl S β → Prop) (x : Int) s σ' H', J s σ' H' → 0 ≤ x → x < hi → (∀ s' σ2 H2, J s' σ2 H2 → T (.nx s') → N σ2 H2) → (∀ r, T (.rt r) → P r) → (∀ s' σ2 H2, J s' σ2 H2 → T (.bk s') → D'.nx σ2 H2) → Post (f x s) T R →
      g (.int x) σ' H' fun σ2 H2 => tb { D' with nx := N, ct := N, bk := D'.nx } σ2 H2)
    (hd : ∀ s σ' H', J s σ' H' → Post (k s) P R → D'.nx σ' H') : Rng1 [.int hi] g tb D' σ H := by
  have q := forRng hP J h0 hb hd
  rw [Int.sub_zero] at q
  exact ⟨hi, rfl, hz.1, hz.2, q⟩
theorem h_forR2 {lo hi : Int} {s0 : S} {f : Int → S → Res (Fl S β)} {k : S → Res β} (hP : Post ((forR (rngI lo hi) s0 f).bind (afterR k)) P R) (hz : (-(2 ^ 62) ≤ lo ∧ lo < 2 ^ 62) ∧ -(2 ^ 62) ≤ hi ∧ hi < 2 ^ 62)
    (J : S → L2.St → Hp → Prop) (h0 : J s0 σ H)
    (hb : ∀ (N : L2.St → Hp → Prop) (T : Fl S β → Prop) (x : Int) s σ' H', J s σ' H' → lo ≤ x → x < hi → (∀ s' σ2 H2, J s' σ2 H2 → T (.nx s') → N σ2 H2) → (∀ r, T (.rt r) → P r) → (∀ s' σ2 H2, J s' σ2 H2 → T (.bk s') → D'.nx σ2 H2) → Post (f x s) T R →
      g (.int x) σ' H' fun σ2 H2 => tb { D' with nx := N, ct := N, bk := D'.nx } σ2 H2)
    (hd : ∀ s σ' H', J s σ' H' → Post (k s) P R → D'.nx σ' H') : Rng2 [.int lo, .int hi] g tb D' σ H :=
  ⟨lo, hi, rfl, ⟨hz.1.1, hz.1.2, hz.2.1, hz.2.2⟩, forRng hP J h0 hb hd⟩

/-! comprehensions -/
def compL : List α → S → (α → S → Res (Option R' × S)) → Res (List R' × S)
  | [], s, _ => .ok ([], s)
  | x :: xs, s, f => (f x s).bind fun r => (compL xs r.2 f).bind fun q => .ok (match r.1 with | some b => b :: q.1 | none => q.1, q.2)
def compR (l : List α) (s : S) (f : α → S → Res (Option R' × S)) : Res (List R' × S) := guardR (l.length ≤ 1000000) (compL l s f)
def compT (l : List α) (f : α → S → Res (Option R' × S)) (k : List R' × S → Res β) (acc : List R') (P : β → Prop) (R : Err → Prop) : Option R' × S → Prop
  | (some b, s) => Post ((compL l s f).bind fun q => k (acc ++ [b] ++ q.1, q.2)) P R
  | (none, s) => Post ((compL l s f).bind fun q => k (acc ++ q.1, q.2)) P R
theorem Post.compS {l : List α} {i : Nat} {s : S} {f : α → S → Res (Option R' × S)} {k : List R' × S → Res β} {acc : List R'} {x : α} (h : Post ((compL (l.drop i) s f).bind fun q => k (acc ++ q.1, q.2)) P R) (hx : l[i]? = some x) :
    Post (f x s) (compT (l.drop (i + 1)) f k acc P R) R := by
  obtain ⟨hi, e⟩ := List.getElem?_eq_some_iff.mp hx
  rw [List.drop_eq_getElem_cons hi, e] at h
  have h2 := (Post.bind (Post.bind h))
  refine h2.mono (fun r q => ?_) fun _ q => q
  obtain ⟨o, s'⟩ := r
  cases o with
  | some b =>
    show Post ((compL (l.drop (i + 1)) s' f).bind fun q => k (acc ++ [b] ++ q.1, q.2)) P R
    have q1 : Post ((compL (l.drop (i + 1)) s' f).bind fun q => .ok (b :: q.1, q.2)) (fun a => Post (k (acc ++ a.1, a.2)) P R) R := q
    generalize compL (l.drop (i + 1)) s' f = m at q1 ⊢
    cases m with
    | ok a =>
      have q2 : Post (k (acc ++ (b :: a.1), a.2)) P R := q1.ok
      show Post (k (acc ++ [b] ++ a.1, a.2)) P R
      rw [List.append_assoc]
      exact q2
    | err e => exact ⟨q1.h0⟩
    | stuck => exact ⟨q1.h0⟩
  | none =>
    show Post ((compL (l.drop (i + 1)) s' f).bind fun q => k (acc ++ q.1, q.2)) P R
    have q1 : Post ((compL (l.drop (i + 1)) s' f).bind fun q => .ok (q.1, q.2)) (fun a => Post (k (acc ++ a.1, a.2)) P R) R := q
    generalize compL (l.drop (i + 1)) s' f = m at q1 ⊢
    cases m
    · exact q1.ok
    · exact ⟨q1.h0⟩
    · exact ⟨q1.h0⟩
theorem h_app1 [Enc α] {l : List α} {b : α} {y : V} {N : Hp → Prop} (w : Ex B H) (m : Mu K B H p (l.map enc)) (r : Rep K B y (enc b)) (hz : l.length < sizeLine) (h : ∀ H', Stp [p] B H B H' → Mu K B H' p ((l ++ [b]).map enc) → N H') :
    ∃ acc, H p = some (.lst acc) ∧ acc.length < sizeLine ∧ N (upd H p (.lst (acc ++ [y]))) := by
  obtain ⟨hb, xs, hp, hr⟩ := id m
  refine ⟨xs, hp, by rw [hr.length, List.length_map]; exact hz, ?_⟩
  have rl : RepL K B (xs ++ [y]) ((l ++ [b]).map enc) := by
    rw [List.map_append]
    exact hr.append (.cons r .nil)
  obtain ⟨s, m'⟩ := Stp.mut w m rl
  exact h _ s m'
def LcL (K : PySem.W.Frag) (v : V) (g : TG) (tt : TT) (te : TE) (vs : List Nat) (σ : L2.St) (H : Hp) (Q : VK) : Prop := tLc (iList K (tC v)) g tt te vs σ H Q
theorem h_lcE {vs : List Nat} {tl : TE} (h : tl σ H fun x H1 => LcL K x g tt te vs σ H1 Q) : tLc (iList K tl) g tt te vs σ H Q := h
def LcT (σ : L2.St) (vs : List Nat) (tt : TT) (te : TE) (Dl : Addr) (N : Hp → Prop) : L2.St → Hp → Prop := fun σ2 H2 => wipe σ2 vs = wipe σ vs ∧ tt σ2 H2 fun b H3 =>
  if b = true then te σ2 H3 fun y H4 => ∃ acc, H4 Dl = some (.lst acc) ∧ acc.length < sizeLine ∧ N (upd H4 Dl (.lst (acc ++ [y]))) else N H3
def App (Dl : Addr) (N : Hp → Prop) : VK := fun y H4 => ∃ acc, H4 Dl = some (.lst acc) ∧ acc.length < sizeLine ∧ N (upd H4 Dl (.lst (acc ++ [y])))
theorem h_lcT {vs : List Nat} {Dl : Addr} {N : Hp → Prop} {σ2 : L2.St} (e : wipe σ2 vs = wipe σ vs) (h : te σ2 H (App Dl N)) : LcT σ vs tYes te Dl N σ2 H := ⟨e, h⟩
theorem h_lcI {vs : List Nat} {Dl : Addr} {N : Hp → Prop} {σ2 : L2.St} (e : wipe σ2 vs = wipe σ vs) (h : tt σ2 H fun b H3 => if b = true then te σ2 H3 (App Dl N) else N H3) : LcT σ vs tt te Dl N σ2 H := ⟨e, h⟩
theorem h_app [Enc α] {l : List α} {b : α} {y : V} {N : Hp → Prop} (w : Ex B H) (m : Mu K B H p (l.map enc)) (r : Rep K B y (enc b)) (hz : l.length < sizeLine) (h : ∀ H', Stp [p] B H B H' → Mu K B H' p ((l ++ [b]).map enc) → N H') : App p N y H := h_app1 w m r hz h
theorem h_lcL [Enc α] {l : List α} {s0 : S} {f : α → S → Res (Option R' × S)} {k : List R' × S → Res β} {vs : List Nat} (hP : Post ((compR l s0 f).bind k) P R) (hs : SqL K H p xs) (hr : RepL K B xs (l.map enc))
    (J : Addr → List R' → S → Hp → Prop) (h0 : ∀ Dl, H Dl = none → J Dl [] s0 (upd H Dl (.lst []))) (hl : ∀ Dl acc s H', J Dl acc s H' → SqL K H' p xs)
    (hb : ∀ (Dl : Addr) (N : Hp → Prop) (T : Option R' × S → Prop) (x : α) v acc s H', J Dl acc s H' → Rep K B v (enc x) → acc.length < sizeLine → (∀ b s' H2, J Dl (acc ++ [b]) s' H2 → T (some b, s') → N H2) → (∀ s' H2, J Dl acc s' H2 → T (none, s') → N H2) → Post (f x s) T R →
      g v (wipe σ vs) H' (LcT σ vs tt te Dl N))
    (hd : ∀ Dl acc s H', J Dl acc s H' → Post (k (acc, s)) P R → Q (.ref Dl) H') : LcL K (.ref p) g tt te vs σ H Q := by
  refine ⟨p, rfl, ⟨xs, hs⟩, fun Dl hD => ?_⟩
  unfold compR at hP
  have hz : l.length ≤ 1000000 := by
    by_cases c : l.length ≤ 1000000
    · exact c
    · unfold guardR at hP; rw [if_neg c] at hP; exact hP.elim
  unfold guardR at hP
  rw [if_pos hz] at hP
  refine lc_list (K := K) (a := p) (xs := xs) (fun i H' => ∃ acc s, J Dl acc s H' ∧ acc.length ≤ i ∧ Post ((compL (l.drop i) s f).bind fun q => k (acc ++ q.1, q.2)) P R) ⟨[], s0, h0 Dl hD, Nat.le_refl _, hP⟩ (fun i H' _ ⟨acc, s, j, _⟩ => hl Dl acc s H' j) ?_ ?_
  · rintro i y H' hi ⟨acc, s, j, hn, q⟩
    have h1 := (List.getElem?_eq_some_iff.mp hi).1
    rw [hr.length, List.length_map] at h1
    obtain ⟨x, hx⟩ : ∃ x, l[i]? = some x := ⟨l[i], List.getElem?_eq_getElem h1⟩
    obtain ⟨u, hu, ru⟩ := hr.get (i := i) (d := enc x) (by rw [List.getElem?_map, hx]; rfl)
    rw [hi] at hu; cases hu
    exact hb Dl _ _ x y acc s H' j ru (Nat.lt_of_le_of_lt (Nat.le_trans hn (Nat.le_trans (Nat.le_of_lt h1) hz)) (by decide)) (fun b s' H2 j2 t2 => ⟨acc ++ [b], s', j2, by rw [List.length_append]; exact Nat.succ_le_succ hn, t2⟩) (fun s' H2 j2 t2 => ⟨acc, s', j2, Nat.le_succ_of_le hn, t2⟩) (q.compS hx)
  · rintro H' ⟨acc, s, j, _, q⟩
    rw [hr.length, List.length_map, List.drop_eq_nil_of_le (Nat.le_refl _)] at q
    have q2 : Post (k (acc ++ [], s)) P R := q
    rw [List.append_nil] at q2
    exact hd Dl acc s H' j q2
def LcR1 (ws : List V) (g : TG) (tt : TT) (te : TE) (vs : List Nat) (σ : L2.St) (H : Hp) (Q : VK) : Prop := tLc (iRng1 (fun _ H Q => Q ws H)) g tt te vs σ H Q
theorem h_lcR1E {vs : List Nat} {ta : TA} (h : ta σ H fun ws H1 => LcR1 ws g tt te vs σ H1 Q) : tLc (iRng1 ta) g tt te vs σ H Q := h
theorem h_lcR1 {hi : Int} {s0 : S} {f : Int → S → Res (Option R' × S)} {k : List R' × S → Res β} {vs : List Nat} (hP : Post ((compR (rngI 0 hi) s0 f).bind k) P R)
    (J : Addr → List R' → S → Hp → Prop) (h0 : ∀ Dl, H Dl = none → J Dl [] s0 (upd H Dl (.lst [])))
    (hb : ∀ (Dl : Addr) (N : Hp → Prop) (T : Option R' × S → Prop) (x : Int) acc s H', J Dl acc s H' → 0 ≤ x → x < hi → acc.length < sizeLine → (∀ b s' H2, J Dl (acc ++ [b]) s' H2 → T (some b, s') → N H2) → (∀ s' H2, J Dl acc s' H2 → T (none, s') → N H2) → Post (f x s) T R →
      g (.int x) (wipe σ vs) H' (LcT σ vs tt te Dl N))
    (hd : ∀ Dl acc s H', J Dl acc s H' → Post (k (acc, s)) P R → Q (.ref Dl) H') (hlo : -(2 ^ 62) ≤ hi) : LcR1 [.int hi] g tt te vs σ H Q := by
  unfold compR at hP
  have hz : (rngI 0 hi).length ≤ 1000000 := by
    by_cases c : (rngI 0 hi).length ≤ 1000000
    · exact c
    · unfold guardR at hP; rw [if_neg c] at hP; exact hP.elim
  unfold guardR at hP
  rw [if_pos hz] at hP
  rw [rngI_len, Int.sub_zero] at hz
  refine ⟨hi, rfl, hlo, by omega, fun Dl hD => ?_⟩
  refine lc_range (lo := 0) (n := hi.toNat) (fun i H' => ∃ acc s, J Dl acc s H' ∧ acc.length ≤ i ∧ Post ((compL ((rngI 0 hi).drop i) s f).bind fun q => k (acc ++ q.1, q.2)) P R) ⟨[], s0, h0 Dl hD, Nat.le_refl _, hP⟩ ?_ ?_
  · rintro i H' hi' ⟨acc, s, j, hn, q⟩
    have hx := rngI_get (lo := 0) (hi := hi) (i := i) (by omega)
    have e : (0 : Int) + (i : Int) = (i : Int) := Int.zero_add _
    exact hb Dl _ _ (0 + (i : Int)) acc s H' j (by omega) (by omega) (Nat.lt_of_le_of_lt (Nat.le_trans hn (Nat.le_trans (Nat.le_of_lt hi') hz)) (by decide)) (fun b s' H2 j2 t2 => ⟨acc ++ [b], s', j2, by rw [List.length_append]; exact Nat.succ_le_succ hn, t2⟩) (fun s' H2 j2 t2 => ⟨acc, s', j2, Nat.le_succ_of_le hn, t2⟩) (q.compS hx)
  · rintro H' ⟨acc, s, j, _, q⟩
    rw [List.drop_eq_nil_of_le (by rw [rngI_len]; omega)] at q
    have q2 : Post (k (acc ++ [], s)) P R := q
    rw [List.append_nil] at q2
    exact hd Dl acc s H' j q2
end

section
variable {K : PySem.W.Frag} {B B' H H' B0 H0 : Hp} {W : List Addr} {p : Addr} {xs : List V} {ds : List D} {v : V} {a b c d : L2.St → Hp → Prop} {rt : VK} {σ : L2.St}
theorem Rep.sqB (r : Rep K B v (.lst ds)) : ∃ p xs, v = .ref p ∧ SqL K B p xs ∧ RepL K B xs ds := by
  cases r with
  | @lst p xs _ hp r => exact ⟨p, xs, rfl, hp, r⟩
theorem Rep.stB (r : Rep K B v (.tup ds)) : ∃ p xs, v = .ref p ∧ SqT K B p xs ∧ RepL K B xs ds := by
  cases r with
  | @tup p xs _ hp r => exact ⟨p, xs, rfl, hp, r⟩
theorem Bor.sq0 (m : Bor K B0 H0 W v ds) : ∃ p xs, v = .ref p ∧ RepL K B0 xs ds ∧ ∀ B' H', Stp W B0 H0 B' H' → SqL K H' p xs := by
  obtain ⟨p, xs, e, hp, r⟩ := m
  refine ⟨p, xs, e, r, fun B' H' s => ?_⟩
  rcases hp with ⟨hp | ⟨o, hp⟩, hw⟩ | hp
  · exact .inl (.inl (s.fr p _ hw hp))
  · exact .inl (.inr ⟨o, s.fr p _ hw hp⟩)
  · exact .inr hp
theorem h_ct (h : d σ H) : tCont (Ends.mk a rt b d) σ H := h
theorem h_bk (h : b σ H) : tBreak (Ends.mk a rt b d) σ H := h
end

/-! ### lists that change -/
def setR {α : Type} (l : List α) (i : Int) (x : α) : Res (List α) := match ixN l.length i with | some j => .ok (l.set j x) | none => .stuck
def Bm (K : PySem.W.Frag) (T : String) (r : V → List V → Hp → VK → Prop) (t : TA) (σ : L2.St) (x : V) (H : Hp) (Q : VK) : Prop := tyV K T x H ∧ t σ H fun xs H2 => r x xs H2 Q
def Bm0 (K : PySem.W.Frag) (T : String) (r : V → List V → Hp → VK → Prop) (σ : L2.St) (x : V) (H : Hp) (Q : VK) : Prop := tyV K T x H ∧ r x [] H Q
section
variable {K : PySem.W.Frag} {σ : L2.St} {B H : Hp} {Q : VK} {p q : Addr} {v y : V} {te to ti : TE} {t : TA} {D' : Ends} {z : TS} {i : Int} {r : V → List V → Hp → VK → Prop}
theorem h_bm {T : String} (h : to σ H fun x H1 => Bm K T r t σ x H1 Q) : tBM K T r to t σ H Q := h
theorem h_bm0 {T : String} (h : to σ H fun x H1 => Bm0 K T r σ x H1 Q) : tBM0 K T r to σ H Q := h
theorem Mu.tyV {ds : List D} (m : Mu K B H p ds) : tyV K "list" (.ref p) H := by
  obtain ⟨hb, xs, hp, _⟩ := m
  exact .inl ⟨rfl, _, .inl (.inl hp)⟩
theorem h_bmL {ds : List D} (m : Mu K B H p ds) (h : t σ H fun xs H2 => r (.ref p) xs H2 Q) : Bm K "list" r t σ (.ref p) H Q := ⟨m.tyV, h⟩
theorem h_bmL0 {ds : List D} (m : Mu K B H p ds) (h : r (.ref p) [] H Q) : Bm0 K "list" r σ (.ref p) H Q := ⟨m.tyV, h⟩
theorem h_append {α : Type} [Enc α] {l : List α} {b : α} (w : Ex B H) (m : Mu K B H p (l.map enc)) (ry : Rep K B y (enc b)) (hz : l.length < 1000000) (h : ∀ H', Stp [p] B H B H' → Mu K B H' p ((l ++ [b]).map enc) → Q .non H') : rAppend (.ref p) [y] H Q := by
  obtain ⟨hb, xs, hp, hr⟩ := id m
  refine ⟨p, xs, y, rfl, rfl, hp, by rw [hr.length, List.length_map]; exact Nat.lt_of_lt_of_le hz (by decide), ?_⟩
  have rl : RepL K B (xs ++ [y]) ((l ++ [b]).map enc) := by
    rw [List.map_append]
    exact hr.append (.cons ry .nil)
  obtain ⟨s, m'⟩ := Stp.mut w m rl
  exact h _ s m'
theorem h_extend {α : Type} [Enc α] {l l2 : List α} (w : Ex B H) (m : Mu K B H p (l.map enc)) (m2 : Mu K B H q (l2.map enc)) (hz : l.length + l2.length ≤ 1000000) (h : ∀ H', Stp [p] B H B H' → Mu K B H' p ((l ++ l2).map enc) → Q .non H') : rExtend (.ref p) [.ref q] H Q := by
  obtain ⟨hb, xs, hp, hr⟩ := id m
  obtain ⟨hb2, ys, hp2, hr2⟩ := id m2
  refine ⟨p, q, xs, ys, rfl, rfl, hp, hp2, by rw [hr.length, hr2.length, List.length_map, List.length_map]; exact Nat.le_trans hz (by decide), ?_⟩
  have rl : RepL K B (xs ++ ys) ((l ++ l2).map enc) := by
    rw [List.map_append]
    exact hr.append hr2
  obtain ⟨s, m'⟩ := Stp.mut w m rl
  exact h _ s m'
theorem RepL.set : ∀ {vs : List V} {ds : List D} {j : Nat} {d : D}, RepL K B vs ds → Rep K B v d → RepL K B (vs.set j v) (ds.set j d)
  | _, _, _, _, .nil, _ => .nil
  | _, _, 0, _, .cons _ t, r => .cons r t
  | _, _, j + 1, _, .cons h t, r => .cons h (RepL.set t r)
theorem Post.set {α β : Type} {l : List α} {x : α} {k : List α → Res β} {P : β → Prop} {R : Err → Prop} (h : Post ((setR l i x).bind k) P R) : ∃ j, ixN l.length i = some j ∧ Post (k (l.set j x)) P R := by
  unfold setR at h
  cases e : ixN l.length i with
  | none => rw [e] at h; exact h.elim
  | some j => rw [e] at h; exact ⟨j, rfl, h⟩
def SubS (K : PySem.W.Frag) (to ti : TE) (σ : L2.St) (v : V) (H : Hp) (N : L2.St → Hp → Prop) : Prop := gSub to ti rSetL v σ H N
theorem h_sub {N : L2.St → Hp → Prop} (h : to σ H fun o H1 => ti σ H1 fun i H2 => rSetL o i v H2 fun H3 => N σ H3) : gSub to ti rSetL v σ H N := h
theorem h_asg {g : TG} (h : te σ H fun x H1 => g x σ H1 D'.nx) : tAsg te g D' σ H := h
theorem h_setL {α : Type} [Enc α] {l : List α} {b : α} {N : Hp → Prop} {j : Nat} (w : Ex B H) (m : Mu K B H p (l.map enc)) (ry : Rep K B v (enc b)) (hj : ixN l.length i = some j) (h : ∀ H', Stp [p] B H B H' → Mu K B H' p ((l.set j b).map enc) → N H') : rSetL (.ref p) (.int i) v H N := by
  obtain ⟨hb, xs, hp, hr⟩ := id m
  refine ⟨p, xs, i, j, rfl, rfl, hp, by rw [hr.length, List.length_map]; exact hj, ?_⟩
  have rl : RepL K B (xs.set j v) ((l.set j b).map enc) := by
    rw [List.map_set]
    exact hr.set ry
  obtain ⟨s, m'⟩ := Stp.mut w m rl
  exact h _ s m'
end

/-- a value with a name -/
def lt {α β : Type} (d : α) (k : α → Res β) : Res β := k d
theorem Post.lt {α β : Type} {d : α} {k : α → Res β} {P : β → Prop} {R : Err → Prop} (h : Post (Y.lt d k) P R) : Post (k d) P R := h

/-! ### lists put together, cut, compared; keywords alone -/
def rCatQ (K : PySem.W.Frag) : R2 := fun x y H Q => ∃ a b xs ys, x = .ref a ∧ y = .ref b ∧ SqL K H a xs ∧ SqL K H b ys ∧ xs.length + ys.length ≤ sizeLine ∧ NwL (xs ++ ys) H Q
theorem op_catQ {X : Cx} : OpR X (binaryOp .Add) (rCatQ X.K) := by
  intro pins s σ H x y v u Q I rx ry h
  obtain ⟨a, b, xs, ys, rfl, rfl, ha, hb, hz, q⟩ := h
  cases rx
  cases ry
  obtain ⟨its, r, p1, z1⟩ := I.list ha
  obtain ⟨its2, r2, p2, z2⟩ := I.list hb
  have hl1 := r.length
  have hl2 := r2.length
  obtain ⟨⟨cls, dd, data, sl⟩, ho, hc, n, hd⟩ := p1.isList
  obtain ⟨⟨cls2, dd2, data2, sl2⟩, ho2, hc2, n2, hd2⟩ := p2.isList
  simp only at hc hd hc2 hd2
  subst hc hd hc2 hd2
  have e : its.toArray ++ its2.toArray = (its ++ its2).toArray := by simp
  refine concat_meets ⟨_, ho, rfl⟩ ⟨_, ho2, rfl⟩ noFill_list_add seq_list_add PySem.F.slot_list_add PySem.F.entry_list_add (PySem.F.args_list_add_2 _ _) (list_addW a b its.toArray its2.toArray n n2 dd dd2 sl sl2 (by rw [List.size_toArray, List.size_toArray]; omega)) ⟨ho, ho2, ?_⟩
  rw [e]
  exact ⟨.ref _, _, I.lnew (t' := s.toks) (r.append r2) (by rw [List.length_append]; omega), rfl, q _ I.fresh⟩
def rSlQ (K : PySem.W.Frag) : V → Option Int → Option Int → Hp → VK → Prop := fun x lo hi H Q => ∃ a xs, x = .ref a ∧ SqL K H a xs ∧ NwL (cutV xs lo hi) H Q
theorem sl_Q {X : Cx} : SlR X (rSlQ X.K) := sl_list
/-- l[lo:hi] -/
def cutL {α : Type} (l : List α) (lo hi : Option Int) : List α := (l.drop (HT.sIx l.length 0 lo)).take (HT.sIx l.length l.length hi - HT.sIx l.length 0 lo)
mutual
/-- as the library's data -/
def pyD : D → PyData
  | .non => .none | .bl b => .bool b | .int i => .int i | .str x => .str x | .lst ds => .list (pyDs ds) | .tup ds => .tuple (pyDs ds) | .dic _ => .dict [] | .obj _ _ => .dict []
def pyDs : List D → List PyData
  | [] => []
  | d :: ds => pyD d :: pyDs ds
end
mutual
/-- no dict within -/
def flatD : D → Bool
  | .lst ds => flatDs ds | .tup ds => flatDs ds | .dic _ => false | .obj _ _ => false | _ => true
def flatDs : List D → Bool
  | [] => true
  | d :: ds => flatD d && flatDs ds
end
/-- == of data -/
def eqD (a b : D) : Bool := PyData.eqv (pyD a) (pyD b)
section
variable {K : PySem.W.Frag} {B B' H H' : Hp}
mutual
theorem Rep.dp (w : Ex B H) : ∀ {v : V} {d : D}, Rep K B v d → flatD d = true → Dp K H v (pyD d)
  | _, _, .non, _ => .non
  | _, _, .bl b, _ => .bl b
  | _, _, .int i, _ => .int i
  | _, _, .str x, _ => .str x
  | _, _, .lst h r, f => .lst (w.l h) (RepL.dp w r f)
  | _, _, .tup h r, f => .tup (w.t h) (RepL.dp w r f)
  | _, _, .dic h r, f => nomatch f
  | _, _, .obj h k r, f => nomatch f
theorem RepL.dp (w : Ex B H) : ∀ {vs : List V} {ds : List D}, RepL K B vs ds → flatDs ds = true → DpAll K H vs (pyDs ds)
  | _, _, .nil, _ => .nil
  | _, _, .cons h t, f => by
    have f' : (flatD _ && flatDs _) = true := f
    rw [Bool.and_eq_true] at f'
    exact .cons (Rep.dp w h f'.1) (RepL.dp w t f'.2)
end
variable {σ : L2.St} {Q : VK} {x y v : V} {d e : D} {p q : Addr} {xs ys : List V} {i j k : Int} {tc te ta tb : TE} {lo hi : Option Int} {to tu : TO}
/-- what may be compared by == here -/
def okEq (d e : D) : Prop := flatD d = true ∧ flatD e = true ∧ SeqAt.shaped (pyD d) = true ∧ SeqAt.shaped (pyD e) = true
instance (d e : D) : Decidable (okEq d e) := by unfold okEq; infer_instance
theorem h_eqD (w : Ex B H) (rx : Rep K B x d) (ry : Rep K B y e) (o : okEq d e) (h : Q (.bl (eqD d e)) H) : rEqD K x y H Q := ⟨_, _, rx.dp w o.1, ry.dp w o.2.1, o.2.2.1, o.2.2.2, h⟩
theorem h_neD (w : Ex B H) (rx : Rep K B x d) (ry : Rep K B y e) (o : okEq d e) (h : Q (.bl (!eqD d e)) H) : rNeD K x y H Q := ⟨_, _, rx.dp w o.1, ry.dp w o.2.1, o.2.2.1, o.2.2.2, h⟩
theorem h_cat (s1 : SqL K H p xs) (s2 : SqL K H q ys) (hz : xs.length + ys.length ≤ sizeLine) (h : NwL (xs ++ ys) H Q) : rCatQ K (.ref p) (.ref q) H Q := ⟨p, q, xs, ys, rfl, rfl, s1, s2, hz, h⟩
theorem RepL.cat {α : Type} [Enc α] {l l2 : List α} (r : RepL K B xs (l.map enc)) (r2 : RepL K B ys (l2.map enc)) : RepL K B (xs ++ ys) ((l ++ l2).map enc) := by
  rw [List.map_append]; exact r.append r2
theorem RepL.take : ∀ {vs : List V} {ds : List D} (n : Nat), RepL K B vs ds → RepL K B (vs.take n) (ds.take n)
  | _, _, 0, _ => .nil
  | _, _, _ + 1, .nil => .nil
  | _, _, n + 1, .cons r t => .cons r (RepL.take n t)
theorem RepL.drop : ∀ {vs : List V} {ds : List D} (n : Nat), RepL K B vs ds → RepL K B (vs.drop n) (ds.drop n)
  | _, _, 0, r => r
  | _, _, _ + 1, .nil => .nil
  | _, _, n + 1, .cons _ t => RepL.drop n t
theorem RepL.cut {α : Type} [Enc α] {l : List α} (r : RepL K B xs (l.map enc)) (lo hi : Option Int) : RepL K B (cutV xs lo hi) ((cutL l lo hi).map enc) := by
  unfold cutV cutL
  rw [List.map_take, List.map_drop, r.length, List.length_map]
  exact (r.drop _).take _
theorem h_sl {r : V → Option Int → Option Int → Hp → VK → Prop} (h : te σ H fun x H1 => to σ H1 fun l H2 => tu σ H2 fun u H3 => r x l u H3 Q) : tSl r te to tu σ H Q := h
theorem h_part {N : Option Int → Hp → Prop} (h : te σ H fun x H1 => ∃ i, x = .int i ∧ N (some i) H1) : tPart te σ H N := h
theorem h_isI {f : Int → Prop} (h : f i) : ∃ j, V.int i = .int j ∧ f j := ⟨i, rfl, h⟩
theorem h_nopart {N : Option Int → Hp → Prop} (h : N none H) : tNoPart σ H N := h
theorem h_slQ (s : SqL K H p xs) (h : NwL (cutV xs lo hi) H Q) : rSlQ K (.ref p) lo hi H Q := ⟨p, xs, rfl, s, h⟩
theorem h_ch {g g' : Int → Int → Bool} (hc : ∀ Q : VK, Q (.int k) H → tc σ H Q) (h : Q (.bl (g i j && g' j k)) H) :
    rI0 (fun i j => .bl (g i j)) (.int i) (.int j) H (fun z H3 => ∃ c, z = .bl c ∧ (if c = true then tc σ H3 fun w' H4 => rI0 (fun i j => .bl (g' i j)) (.int j) w' H4 Q else Q (.bl false) H3)) := by
  refine ⟨i, j, rfl, rfl, g i j, rfl, ?_⟩
  cases e : g i j with
  | true =>
    refine h_iteT (hc _ ?_)
    rw [e, Bool.true_and] at h
    exact ⟨j, k, rfl, rfl, h⟩
  | false =>
    rw [e, Bool.false_and] at h
    exact h_iteF h
end
/-- f(k = v, ..) -/
def tCallK0 (sp : Sp) (gV : List V → List V) (E : XK) (tk : TA) : TE := fun σ H Q => tk σ H fun zs H2 => sp (gV zs) H2 Q E
theorem pe_callK0 {X : Cx} {CX : CXT} {k : Nat} {f : Addr} {fd : FuncData} {ps ks : List Str} {sp : Sp} {E : XK} {x : Str} {p pos : Pos} {kws : List Keyword} {tk : TA} {g : List Value → List Value → List Value} {gV : List V → List V → List V}
    (F : FnOk X.prog X.w X.K X.mg X.base CX k f fd ps sp) (hr : Room k X.A) (hg : Gl X x) (hm : X.mg x = some (.ref f)) (hk : PySem.W.keepIn X.K (.ref f) = true) (hb : KBinds X.K fd ps ks g gV) (hx : Passes CX X E)
    (hkw : PK X kws tk) (hall : (backToKw pos (keywordEach kws X.env)).all (·.1.isSome) = true := by rfl) (hks : (backToKw pos (keywordEach kws X.env)).filterMap (·.1) = ks := by rfl)
    (hdb : (x == ("__debug__" : Str)) = false := by decide)
    (hpl : ((backTo pos (starEach [] X.env)).any (·.1) || (backToKw pos (keywordEach kws X.env)).any (·.1.isNone)) = false := by rfl) :
    PE X (.Call (.Name x p) [] kws pos) (tCallK0 sp (gV []) E tk) := by
  refine ⟨fun pins s σ H Q I h => ?_⟩
  refine wpAny_Call_Name_kw (ld_glob I hg hm ?_ hdb)
  refine PySem.W.callWith_KW0 (h₀ := X.base) I.ok.mod.kin hk hall ?_ hpl
  refine thn (hkw.run pos pins s σ H _ I h) fun ws s2 ⟨zs, H2, I2, rz, q2⟩ => ⟨I2.kIn, ?_⟩
  rw [hks]
  exact run_fnk F hr hb hx I2 .nil rz q2
theorem h_callK0 {σ : L2.St} {H : Hp} {Q : VK} {sp : Sp} {gV : List V → List V} {E : XK} {tk : TA} (h : tk σ H fun zs H2 => sp (gV zs) H2 Q E) : tCallK0 sp gV E tk σ H Q := h
theorem h_callK {σ : L2.St} {H : Hp} {Q : VK} {sp : Sp} {gV : List V → List V → List V} {E : XK} {t tk : TA} (h : t σ H fun vs H1 => tk σ H1 fun zs H2 => sp (gV vs zs) H2 Q E) : tCallK sp gV E t tk σ H Q := h
theorem hu64_of {A : Around} {k : Nat} (hr : Room k A) : A.units + 64 < cLine := Nat.lt_of_le_of_lt (Nat.add_le_add_left (by decide : 64 ≤ 64) _) hr.units

/-! ### dicts as data -/
section
variable {K : PySem.W.Frag} {B H : Hp} {σ : L2.St} {Q : VK} {tk tv : TE} {v : V} {d : D} {i : Int} {p : Addr} {xs : List V}
theorem h_disp1I (hk : ∀ (H' : Hp) (Q : VK), Q (.int i) H' → tk σ H' Q) (hv : ∀ (H' : Hp) (Q : VK), Q v H' → tv σ H' Q) (w : Ex B H) (rv : Rep K B v d)
    (h : ∀ p B' H', Stp [] B H B' H' → Rep K B' (.ref p) (.dic [(.inl i, d)]) → Q (.ref p) H') : tDisp [(tk, tv)] σ H Q := fun p hp => by
  show tk σ (upd H p (.dK [])) _
  refine hk _ _ (hv _ _ ⟨upd_same, [(.inl i, v)], rfl, (by show 1 ≤ 15; decide), ?_⟩)
  rw [upd_upd]
  have hb := w.none hp
  exact h p _ _ (Stp.new w hp) (.dic upd_same (.cons (rv.mono (Ex.new hb)) .nil))
theorem h_dnew (w : Ex B H) (h : ∀ p B' H', Stp [] B H B' H' → Rep K B' (.ref p) (.dic []) → Q (.ref p) H') : tDNewK σ H Q := fun p hp => h p _ _ (Stp.new w hp) (.dic upd_same .nil)
def rDictP (K : PySem.W.Frag) : List V → Hp → VK → Prop := fun xs H Q => ∃ (a : Addr) (ps : List Addr) (kvs : List (Key × V)), xs = [.ref a] ∧ SqL K H a (ps.map V.ref) ∧ Paired (fun p kv => SqT K H p [kV kv.1, kv.2]) ps kvs ∧
    ∀ p, H p = none → Q (.ref p) (upd H p (.dK (mergeK [] kvs)))
theorem cr_dict {X : Cx} (hc : X.calm = true) : CallR X (.type "dict") (rDictP X.K) := call_dictP hc
def vD : V → D
  | .int i => .int i | .bl b => .bl b | .str x => .str x | _ => .non
/-- dict(pairs of ints), as data -/
def dictI (l : List (Tp2 Int Int)) : List (Key × D) := (mergeK [] (l.map fun t => ((Sum.inl t.a : Key), V.int t.b))).map fun kv => (kv.1, vD kv.2)
theorem putK_ints {kvs : List (Key × V)} {k : Key} {j : Int} (h : ∀ kv ∈ kvs, ∃ i, kv.2 = V.int i) : ∀ kv ∈ putK kvs k (V.int j), ∃ i, kv.2 = V.int i := by
  intro kv m
  unfold putK at m
  split at m
  · obtain ⟨q, hq, e⟩ := List.mem_map.mp m
    rw [← e]
    split
    · exact ⟨j, rfl⟩
    · exact h q hq
  · rcases List.mem_append.mp m with m | m
    · exact h kv m
    · rw [List.mem_singleton.mp m]; exact ⟨j, rfl⟩
theorem merge_ints : ∀ {l : List (Tp2 Int Int)} {acc : List (Key × V)}, (∀ kv ∈ acc, ∃ i, kv.2 = V.int i) → ∀ kv ∈ mergeK acc (l.map fun t => ((Sum.inl t.a : Key), V.int t.b)), ∃ i, kv.2 = V.int i
  | [], _, h => h
  | t :: r, acc, h => merge_ints (l := r) (putK_ints h)
theorem RepK.ints : ∀ {kvs : List (Key × V)}, (∀ kv ∈ kvs, ∃ i, kv.2 = V.int i) → RepK K B kvs (kvs.map fun kv => (kv.1, vD kv.2))
  | [], _ => .nil
  | (k, v) :: r, h => by
    obtain ⟨i, e⟩ := h (k, v) List.mem_cons_self
    have e' : v = V.int i := e
    subst e'
    exact .cons (.int i) (RepK.ints fun kv m => h kv (List.mem_cons_of_mem _ m))
theorem pairs_D (w : Ex B H) : ∀ {xs : List V} {l : List (Tp2 Int Int)}, RepL K B xs (l.map enc) → ∃ ps : List Addr, xs = ps.map V.ref ∧ Paired (fun p (kv : Key × V) => SqT K H p [kV kv.1, kv.2]) ps (l.map fun t => ((Sum.inl t.a : Key), V.int t.b))
  | [], [], _ => ⟨[], rfl, .nil⟩
  | _ :: _, [], r => nomatch r
  | [], _ :: _, r => nomatch r
  | v :: vs, t :: l, r => by
    cases r with
    | cons h q =>
      obtain ⟨ps, e, pr⟩ := pairs_D w q
      obtain ⟨p, ys, rfl, hs, hr⟩ := Rep.st w (show Rep K B v (.tup [enc t.a, enc t.b]) from h)
      cases hr with
      | cons h1 t1 =>
        cases t1 with
        | cons h2 t2 =>
          cases t2
          cases h1
          cases h2
          exact ⟨p :: ps, by rw [e]; rfl, .cons hs pr⟩
theorem h_dictP {l : List (Tp2 Int Int)} (w : Ex B H) (s : SqL K H p xs) (r : RepL K B xs (l.map enc)) (h : ∀ p B' H', Stp [] B H B' H' → Rep K B' (.ref p) (.dic (dictI l)) → Q (.ref p) H') : rDictP K [.ref p] H Q := by
  obtain ⟨ps, e, pr⟩ := pairs_D w r
  subst e
  exact ⟨p, ps, _, rfl, s, pr, fun q hq => h q _ _ (Stp.new w hq) (.dic upd_same (RepK.ints (merge_ints fun _ m => nomatch m)))⟩
end
theorem RepL.toD {K : PySem.W.Frag} {B : Hp} {α : Type} [Enc α] {xs : List V} {l : List α} (r : RepL K B xs (l.map enc)) : RepL K B xs ((l.map enc : List D).map enc) := by
  have e : (l.map enc : List D).map enc = l.map enc := List.map_id' _
  rw [e]; exact r
/-- a thing that is an int -/
def asI (d : D) : Res Int := match d with | .int i => .ok i | _ => .stuck
theorem Post.asI {β : Type} {d : D} {k : Int → Res β} {P : β → Prop} {R : Err → Prop} (h : Post ((Y.asI d).bind k) P R) : ∃ i, d = .int i ∧ Post (k i) P R := by
  cases d with
  | int i => exact ⟨i, rfl, h⟩
  | _ => exact h.elim
/-- a pair taken apart -/
def un2 {α β γ : Type} (k : α → β → γ) (p : α × β) : γ := k p.1 p.2
theorem Post.un2 {α β γ : Type} {k : α → β → Res γ} {a : α} {b : β} {P : γ → Prop} {R : Err → Prop} (h : Post (Y.un2 k (a, b)) P R) : Post (k a b) P R := h
/-- a thing that is a list | a tuple -/
def asL (d : D) : Res (List D) := match d with | .lst l => .ok l | _ => .stuck
def asT (d : D) : Res (List D) := match d with | .tup l => .ok l | _ => .stuck
theorem enc_Ds (l : List D) : (l.map enc : List D) = l := List.map_id' _
theorem Post.asL {β : Type} {d : D} {k : List D → Res β} {P : β → Prop} {R : Err → Prop} (h : Post ((Y.asL d).bind k) P R) : ∃ l : List D, d = .lst (l.map enc) ∧ Post (k l) P R := by
  cases d with
  | lst l => exact ⟨l, by rw [enc_Ds], h⟩
  | _ => exact h.elim
theorem Post.asT {β : Type} {d : D} {k : List D → Res β} {P : β → Prop} {R : Err → Prop} (h : Post ((Y.asT d).bind k) P R) : ∃ l : List D, d = .tup (l.map enc) ∧ Post (k l) P R := by
  cases d with
  | tup l => exact ⟨l, by rw [enc_Ds], h⟩
  | _ => exact h.elim
section
variable {K : PySem.W.Frag} {B H : Hp} {Q : VK} {p : Addr} {xs : List V}
theorem RepL.bools : ∀ {xs : List V} {bs : List Bool}, RepL K B xs (bs.map enc) → xs = bs.map V.bl
  | [], [], _ => rfl
  | _ :: _, [], r => nomatch r
  | [], _ :: _, r => nomatch r
  | v :: vs, b :: bs, r => by
    cases r with
    | cons h t =>
      cases h
      rw [RepL.bools t]
      rfl
theorem RepL.intsV : ∀ {xs : List V} {bs : List Int}, RepL K B xs (bs.map enc) → xs = bs.map V.int
  | [], [], _ => rfl
  | _ :: _, [], r => nomatch r
  | [], _ :: _, r => nomatch r
  | v :: vs, b :: bs, r => by
    cases r with
    | cons h t =>
      cases h
      rw [RepL.intsV t]
      rfl
theorem h_all {bs : List Bool} (s : SqL K H p xs) (r : RepL K B xs (bs.map enc)) (h : Q (.bl (bs.all id)) H) : rAll K [.ref p] H Q := ⟨p, bs, rfl, by rw [← r.bools]; exact s, h⟩
theorem h_any {bs : List Bool} (s : SqL K H p xs) (r : RepL K B xs (bs.map enc)) (h : Q (.bl (bs.any id)) H) : rAny K [.ref p] H Q := ⟨p, bs, rfl, by rw [← r.bools]; exact s, h⟩
theorem h_sum {ns : List Int} (s : SqL K H p xs) (r : RepL K B xs (ns.map enc)) (h : Q (.int ns.sum) H) : rSum K [.ref p] H Q := ⟨p, ns, rfl, by rw [← r.intsV]; exact s, h⟩
end
/-! ### the top -/
/-- the law's promise -/
def spTop (K : PySem.W.Frag) : Sp := fun vs H Q _ => ∃ (a : Addr) (ns : List Int), vs = [.ref a] ∧ ns.length ≤ 63 ∧ SqL K H a (ns.map V.int) ∧ ∀ H', Q (.bl true) H'
theorem top_of {K : PySem.W.Frag} {m : List Int → Res Bool} (hm : ∀ ns : List Int, ns.length ≤ 63 → m ns = .ok true) {vs : List V} {H : Hp} {Q : VK} {E : XK} (h : spTop K vs H Q E) :
    ∃ (B : Hp) (v : V) (a : List Int), Ex B H ∧ vs = [v] ∧ Bor K B H [] v (a.map enc) ∧ Post (m a) (fun r => Ret K [] B H (enc r) Q) (fun _ => False) := by
  obtain ⟨a, ns, e, hl, hs, k⟩ := h
  refine ⟨H, .ref a, ns, Ex.refl H, e, ⟨a, _, rfl, ?_, RepL.ints ns⟩, ?_⟩
  · rcases hs with hs | hs
    · exact .inl ⟨hs, fun z => nomatch z⟩
    · exact .inr hs
  · rw [hm ns hl]
    refine ⟨fun v B' H' st r => ?_⟩
    cases r
    exact k H'
theorem walk_top {l : PySem.W.OpenLaw} {q : Program} {loose : List Str} {XP : (Str → Option Value) → Heap → Prop} {YP : World → Heap → Prop} {d : DefRec} {K : Params → PySem.W.Frag} {x : Str} {k : Nat} (hn : l.most = some 63) (hdf : d.params.defaults = [])
    (hr : Room k callerA) (hY : ∀ (w : World) (h : Heap), YP w h → (K w.params).In h)
    (F : ∀ (w : World) (mg : Str → Option Value) (fa : Addr) (h : Heap), (K w.params).In h → h.Ns mainGlobals mg → mg d.name = some (.ref fa) →
      ∃ fd : FuncData, (∀ (s : Shared) (u : Value), BindsTo s fd ⟨[u], []⟩ [(x, u)]) ∧ ∀ base : Heap, (K w.params).In base → base.Ns mainGlobals mg → FnOk l.prog w (K w.params) mg base CX0 k fa fd [x] (spTop (K w.params))) :
    PySem.W.WalkO q loose XP YP l.row.toRowW d [] (fun f vs => PySem.call f vs) :=
  L2.walk_of (n := 63) (k := k) (x := x) (CX := fun _ => CX0) (sp := fun w => spTop (K w.params)) hn (by decide) hdf hr hY F (fun _ _ a ns hl _ hS => ⟨a, ns, rfl, hl, hS, fun _ => rfl⟩) fun _ _ _ _ _ z => z
/-- how its arguments bind by keywords -/
theorem _root_.L2.Fun.kb {K : PySem.W.Frag} {x qual : Str} {st : Stmt} {f : Addr} {fd : FuncData} {ps ks : List Str} {g : List Value → List Value → List Value} {gV : List V → List V → List V} (F : Fun K x qual st f fd)
    (h : ∀ (kV doc pm : Value) (an : Option Addr) (cdv ct : Value) (us ws : List Value), (g us ws).length = ps.length → bindArgs (PySem.W.fnOf x qual (defArgs st) (defBody st) (defScope st) .none kV doc pm an cdv ct) ⟨us, ks.zip ws⟩ = pure (ps.zip (g us ws)))
    (r : ∀ {vs : List V} {us : List Value} {zs : List V} {ws : List Value}, Vals vs us → Vals zs ws → Vals (gV vs zs) (g us ws)) : KBinds K fd ps ks g gV := by
  obtain ⟨oc, od, kV, doc, pm, an, cdv, ct, osl, rfl, lk, hcd⟩ := F.ex
  exact ⟨fun s us ws _ hl => .of_eq (h kV doc pm an cdv ct us ws hl), r⟩

/-! ### while -/
def whileR {S R : Type} : Nat → S → (S → Res (Fl S R)) → Res (Fl S R)
  | 0, _, _ => .stuck
  | n + 1, s, g => (g s).bind fun r => match r with | .nx s' => whileR n s' g | r => .ok r
section
variable {K : PySem.W.Frag} {σ : L2.St} {H : Hp} {Q : VK} {tb t : TS} {c : TT} {D' : Ends} {S β : Type} {P : β → Prop} {E : Err → Prop}
theorem h_while {n : Nat} {s0 : S} {f : S → Res (Fl S β)} {k : S → Res β} (hP : Post ((whileR n s0 f).bind (afterR k)) P E) (J : S → L2.St → Hp → Prop) (h0 : J s0 σ H)
    (hb : ∀ (N : L2.St → Hp → Prop) (C : (L2.St → Hp → Prop) → Prop) (T : Fl S β → Prop) s σ' H', J s σ' H' → C N → (∀ s' σ2 H2, J s' σ2 H2 → T (.nx s') → N σ2 H2) → (∀ r, T (.rt r) → P r) → (∀ s' σ2 H2, J s' σ2 H2 → T (.bk s') → D'.nx σ2 H2) → Post (f s) T E →
      c σ' H' fun b H1 => if b = true then ∃ N, C N ∧ tb { D' with nx := N, ct := N, bk := D'.nx } σ' H1 else D'.nx σ' H1)
    (hd : ∀ s σ' H', J s σ' H' → Post (k s) P E → D'.nx σ' H') : tWhile c tb D' σ H := by
  refine ⟨fun m σ' H' => ∃ s, J s σ' H' ∧ Post (whileR m s f) (fun a => Post (afterR k a) P E) E, ⟨n, s0, h0, hP.bind⟩, ?_⟩
  rintro m σ' H' ⟨s, j, q⟩
  cases m with
  | zero => exact Post.elim q
  | succ m =>
    refine hb (fun σ2 H2 => ∃ s', J s' σ2 H2 ∧ Post (whileR m s' f) (fun a => Post (afterR k a) P E) E) (fun N => ∀ σ2 H2, N σ2 H2 → ∃ m', m' < m + 1 ∧ ∃ s, J s σ2 H2 ∧ Post (whileR m' s f) (fun a => Post (afterR k a) P E) E)
      (fun r => match r with | .nx s' => Post (whileR m s' f) (fun a => Post (afterR k a) P E) E | .rt r => Post (.ok r) P E | .bk s' => Post (k s') P E) s σ' H' j (fun σ2 H2 h => ⟨m, Nat.lt_succ_self m, h⟩)
      (fun s' σ2 H2 j2 t2 => ⟨s', j2, t2⟩) (fun r t2 => Post.ok t2) (fun s' σ2 H2 j2 t2 => hd s' σ2 H2 j2 t2) ?_
    refine (Post.bind q).mono (fun r q => ?_) fun _ q => q
    cases r with
    | nx s' => exact q
    | rt r => exact q.ok
    | bk s' => exact q.ok
theorem h_par {i j : Nat} {ta : TA} (h : ta σ H fun vs H1 => ∃ v w, vs = [v, w] ∧ D'.nx ((σ.set i (some v)).set j (some w)) H1) : tPar i j ta D' σ H := h
theorem h_two {N : V → V → Prop} {x y : V} (h : N x y) : ∃ v w, [x, y] = [v, w] ∧ N v w := ⟨x, y, rfl, h⟩

/-! ### errors -/
def tryR {α : Type} (m : Res α) (h : Err → Res α) : Res α := match m with | .ok a => .ok a | .err e => h e | .stuck => .stuck
theorem Post.tr {α : Type} {m : Res α} {h : Err → Res α} {P : α → Prop} {R : Err → Prop} (q : Post (tryR m h) P R) : Post m P (fun e => Post (h e) P R) := by
  obtain ⟨q⟩ := q
  refine ⟨?_⟩
  cases m
  · exact q
  · exact ⟨q⟩
  · exact q
theorem h_tryJ {m : Res (Fl S β)} {h : Err → Res (Fl S β)} {k : S → Res β} (hP : Post ((tryR m h).bind (afterR k)) P E) (J : S → L2.St → Hp → Prop)
    (h1 : ∀ (N : L2.St → Hp → Prop) (T : Fl S β → Prop), (∀ s σ' H', J s σ' H' → T (.nx s) → N σ' H') → (∀ r, T (.rt r) → P r) → Post m T (fun e => Post (h e) T E) → t { D' with nx := N } σ H)
    (h2 : ∀ s σ' H', J s σ' H' → Post (k s) P E → D'.nx σ' H') : t D' σ H := by
  refine h1 _ (fun a => Post (afterR k a) P E) (fun s σ' H' j q => h2 s σ' H' j q) (fun r q => (q : Post (.ok r) P E).ok) ?_
  exact (Post.bind hP).tr
/-- what the written part says of an error's class -/
structure ExcT (K : PySem.W.Frag) (mg : Str → Option Value) (nm : Str) (C : Addr) : Prop where
  g : mg nm = some (.ref C)
  ec : ExcC K C
  ty : PySem.W.typeIn K (.ref C) = some (.type "type")
  kp : PySem.W.keepIn K (.ref C) = true
  ve : PySem.W.subIn K (.ref C) (.type "ValueError") = some true
  is : PySem.W.isClsIn K C = true
  self : PySem.W.subIn K (.ref C) (.ref C) = some true
/-- an error that is raised with a text alone -/
structure ExcR (K : PySem.W.Frag) (mg : Str → Option Value) (nm : Str) (C : Addr) : Prop extends ExcT K mg nm C where
  ex : PySem.W.excIn K C [.type "ValueError", .type "Exception", .type "BaseException", .type "object"] "ValueError.__new__" = true
theorem ExcT.names {X : Cx} {nm : Str} {C : Addr} (T : ExcT X.K X.mg nm C) (hg : Gl X nm) (hd : (nm == ("__debug__" : Str)) = false) : Names X nm (.ref C) := ⟨hg, hd, .inl T.g⟩
theorem ExcT.exm {mg : Str → Option Value} {nm : Str} {C : Addr} (T : ExcT K mg nm C) {cls : Value} {b : Bool} (h : PySem.W.subIn K cls (.ref C) = some b) : PySem.W.exmOne K cls (.ref C) = some b := PySem.W.exm_ref T.ec.hs T.ec.hd T.ty h
theorem ExcT.kit {mg : Str → Option Value} {nm : Str} {C C2 : Addr} (T : ExcT K mg nm C) {b : Bool} (h : PySem.W.subIn K (.ref C2) (.ref C) = some b) : PySem.W.kitOne K (.ref C2) (.ref C) = some b := by
  unfold PySem.W.kitOne
  by_cases e : (Value.ref C2 == Value.ref C) = true
  · rw [if_pos e]
    have e2 : C2 = C := Value.ref.inj (beq_iff_eq.mp e)
    subst e2
    exact T.self.symm.trans h
  · rw [if_neg e]
    have h2 : (PySem.W.clsIn K C).isSome = true := T.is
    show (if ((PySem.W.clsIn K C).isSome && PySem.W.typeIn K (.ref C) == some (.type "type")) = true then PySem.W.subIn K (.ref C2) (.ref C) else none) = some b
    rw [if_pos (by rw [h2, T.ty] <;> rfl)]
    exact h
theorem ExcT.kitVE {mg : Str → Option Value} {nm : Str} {C : Addr} (T : ExcT K mg nm C) : PySem.W.kitOne K (.ref C) (.type "ValueError") = some true := by
  unfold PySem.W.kitOne
  rw [if_neg (by simp)]
  show (if PySem.W.kitMeta "ValueError" = true then PySem.W.subIn K (.ref C) (.type "ValueError") else none) = some true
  rw [if_pos (by decide +kernel)]
  exact T.ve
def tIsE (K : PySem.W.Frag) (a : Addr) (cls : Value) (d : Option Addr) (targs : TA) : TE := fun σ H Q => ∃ Dc, cls = .ref Dc ∧ d = none ∧ ExcC K Dc ∧ tCB (rIsE K Dc a) targs σ H Q
theorem pe_isE {X : Cx} {e : Expr} {a : Addr} {cls : Value} {d : Option Addr} {targs : TA} (hK : X.K = K) (h : ∀ Dc, cls = .ref Dc → d = none → ExcC K Dc → PE X e (tCB (rIsE K Dc a) targs)) : PE X e (tIsE K a cls d targs) :=
  ⟨fun pins s σ H Q I q => by
    obtain ⟨Dc, e1, e2, ec, q⟩ := q
    exact (h Dc e1 e2 ec).run pins s σ H Q I q⟩
theorem h_isE {a C : Addr} {targs : TA} {mg : Str → Option Value} {nm : Str} (T : ExcT K mg nm C) (h : targs σ H fun vs H1 => rIsE K C a vs H1 Q) : tIsE K a (.ref C) none targs σ H Q := ⟨C, rfl, rfl, T.ec, h⟩
theorem h_isER {a C C2 : Addr} {b : Bool} (h : PySem.W.kitOne K (.ref C) (.ref C2) = some b) (q : Q (.bl b) H) : rIsE K C a [.ref a, .ref C2] H Q := ⟨.ref C2, .ref C2, b, rfl, fun _ r => r, h, q⟩
theorem h_isEB {a C : Addr} {n : String} {b : Bool} (h : PySem.W.kitOne K (.ref C) (.type n) = some b) (q : Q (.bl b) H) : rIsE K C a [.ref a, .ty n] H Q := ⟨.ty n, .type n, b, rfl, fun _ r => r, h, q⟩
/-- the clause of a try meets the error -/
theorem h_wAs {C S' : Addr} {i : Nat} {ts : Addr → Value → Option Addr → TS} {Wout : WX} {mg : Str → Option Value} {nm : Str} (T : ExcT K mg nm S') (hs : PySem.W.subIn K (.ref C) (.ref S') = some true)
    (h : ∀ a, H a = none → ts a (.ref C) none { nx := fun σ' H' => D'.nx (σ'.set i none) H', rt := D'.rt, bk := fun σ' H' => D'.bk (σ'.set i none) H', ct := fun σ' H' => D'.ct (σ'.set i none) H' } (σ.set i (some (.ref a))) H) :
    wAs K (.ref S') i ts Wout D' (.ref C) none σ H := ⟨true, T.exm hs, fun _ a ha => h a ha, fun q => nomatch q⟩
theorem h_wOnly {C S' : Addr} {ts : Addr → Value → Option Addr → TS} {Wout : WX} {mg : Str → Option Value} {nm : Str} (T : ExcT K mg nm S') (hs : PySem.W.subIn K (.ref C) (.ref S') = some true)
    (h : ∀ a, H a = none → ts a (.ref C) none D' σ H) : wOnly K (.ref S') ts Wout D' (.ref C) none σ H := ⟨true, T.exm hs, fun _ a ha => h a ha, fun q => nomatch q⟩
end

/-! ### a try by its name -/
def tTryA (K : PySem.W.Frag) (c : Value) (i : Nat) (ts : Addr → Value → Option Addr → TS) (Wout : WX) (tb : WX → TS) : TS := fun D σ H => tb (wAs K c i ts Wout D) D σ H
def tTryO (K : PySem.W.Frag) (c : Value) (ts : Addr → Value → Option Addr → TS) (Wout : WX) (tb : WX → TS) : TS := fun D σ H => tb (wOnly K c ts Wout D) D σ H
section
variable {X : Cx} {n x : Str} {c : Value} {i : Nat} {body suite : List Stmt} {b₀ : Stmt} {np pos pos' : Pos} {tb : WX → TS} {ts : Addr → Value → Option Addr → TS} {Wout : WX} {D' : Ends} {σ : L2.St} {H : Hp} {K : PySem.W.Frag}
theorem ps_tryA (hs : X.stack = X.env :: X.outer) (hf : X.env.frame = some X.env.locals) (hN : X.N.Nodup) (hi : X.N[i]? = some n) (hln : X.env.kindOf n = some .local) (hc : Names X x c) (tk : Takes X Wout)
    (hb : ∀ (W : WX) (pn : List (Addr × Obj)) (xe : Value → Shared → Prop), Takes (X.tr pn xe) W → PassesOwn (model X.prog X.w) X.A X.env xe → PSs (X.tr pn xe) body (tb W))
    (hsu : ∀ (a : Addr) (oe : Obj) (cls : Value) (d : Option Addr) (pn : List (Addr × Obj)), Zc cls d oe → (∃ vs, oe.data = .fields vs) → PSs (X.suite a ((a, oe) :: pn)) (b₀ :: suite) (ts a cls d)) (hK : X.K = K := by rfl) :
    PS X (.Try body [.ExceptHandler (some (.Name x np)) (some n) (b₀ :: suite) pos'] [] [] pos) (tTryA K c i ts Wout tb) := hK ▸ ps_try_as hs hf hN hi hln hc tk hb hsu
theorem ps_tryO (hs : X.stack = X.env :: X.outer) (hf : X.env.frame = some X.env.locals) (hc : Names X x c) (tk : Takes X Wout)
    (hb : ∀ (W : WX) (pn : List (Addr × Obj)) (xe : Value → Shared → Prop), Takes (X.tr pn xe) W → PassesOwn (model X.prog X.w) X.A X.env xe → PSs (X.tr pn xe) body (tb W))
    (hsu : ∀ (a : Addr) (oe : Obj) (cls : Value) (d : Option Addr) (pn : List (Addr × Obj)), Zc cls d oe → (∃ vs, oe.data = .fields vs) → PSs (X.suite a ((a, oe) :: pn)) (b₀ :: suite) (ts a cls d)) (hK : X.K = K := by rfl) :
    PS X (.Try body [.ExceptHandler (some (.Name x np)) none (b₀ :: suite) pos'] [] [] pos) (tTryO K c ts Wout tb) := hK ▸ ps_try_only hs hf hc tk hb hsu
theorem h_tryA (h : tb (wAs K c i ts Wout D') D' σ H) : tTryA K c i ts Wout tb D' σ H := h
theorem h_tryO (h : tb (wOnly K c ts Wout D') D' σ H) : tTryO K c ts Wout tb D' σ H := h
end
theorem Post.mono2 {α : Type} {m : Res α} {P P' : α → Prop} {R R' : Err → Prop} (h : Post m P R) (hr : ∀ e, R e → R' e) (hp : ∀ a, P a → P' a) : Post m P' R' := h.mono hp hr
theorem boot_ValueError : bootBuiltins "ValueError" = some (.type "ValueError") := by decide +kernel
/-! ### things that are lists or tuples -/
def lenD (d : D) : Res Int := match d with | .lst l => .ok l.length | .tup l => .ok l.length | .str x => .ok x.length | _ => .stuck
section
variable {K : PySem.W.Frag} {B H : Hp} {Q : VK} {v : V} {d : D} {σ : L2.St} {g : TGs}
theorem Post.lenD {β : Type} {k : Int → Res β} {P : β → Prop} {R : Err → Prop} (h : Post ((Y.lenD d).bind k) P R) (hs : ∀ x, d ≠ .str x) : ∃ ds : List D, (d = .lst ds ∨ d = .tup ds) ∧ Post (k ds.length) P R := by
  cases d with
  | lst l => exact ⟨l, .inl rfl, h⟩
  | tup l => exact ⟨l, .inr rfl, h⟩
  | str x => exact absurd rfl (hs x)
  | _ => exact h.elim
theorem h_tupG {n : Nat} {p : Addr} {xs : List V} {N : L2.St → Hp → Prop} (s : SqT K H p xs) (hl : xs.length = n) (h : g xs σ H N) : gTup K n g (.ref p) σ H N := ⟨p, xs, rfl, s, hl, h⟩
theorem h_gcons {t : TG} {u : TGs} {x : V} {xs : List V} {N : L2.St → Hp → Prop} (h : t x σ H fun σ' H' => u xs σ' H' N) : gCons t u (x :: xs) σ H N := ⟨x, xs, rfl, h⟩
theorem h_gnil {N : L2.St → Hp → Prop} (h : N σ H) : gNil [] σ H N := ⟨rfl, h⟩
end

section
variable {K : PySem.W.Frag} {B H : Hp} {Q : VK} {p : Addr} {xs : List V} {d1 d2 d3 d4 d5 : D}
theorem h_lenTl {l : List D} (s : SqT K H p xs) (r : RepL K B xs (l.map enc)) (h : Q (.int l.length) H) : rLenY K [V.ref p] H Q := by
  refine ⟨p, xs, rfl, .inr s, ?_⟩
  rw [show xs.length = l.length from by rw [r.length, List.length_map]]
  exact h
theorem tup2 {x y : V} (hl : xs.length = 2) (h0 : atI xs 0 = some x) (h1 : atI xs 1 = some y) : xs = [x, y] := by
  match xs, hl with
  | [a, b], _ =>
    have e0 : a = x := Option.some.inj h0
    have e1 : b = y := Option.some.inj h1
    rw [e0, e1]
theorem tup3 {x y z : V} (hl : xs.length = 3) (h0 : atI xs 0 = some x) (h1 : atI xs 1 = some y) (h2 : atI xs 2 = some z) : xs = [x, y, z] := by
  match xs, hl with
  | [a, b, c], _ =>
    have e0 : a = x := Option.some.inj h0
    have e1 : b = y := Option.some.inj h1
    have e2 : c = z := Option.some.inj h2
    rw [e0, e1, e2]
theorem tup4 {x y z u : V} (hl : xs.length = 4) (h0 : atI xs 0 = some x) (h1 : atI xs 1 = some y) (h2 : atI xs 2 = some z) (h3 : atI xs 3 = some u) : xs = [x, y, z, u] := by
  match xs, hl with
  | [a, b, c, d], _ =>
    have e0 : a = x := Option.some.inj h0
    have e1 : b = y := Option.some.inj h1
    have e2 : c = z := Option.some.inj h2
    have e3 : d = u := Option.some.inj h3
    rw [e0, e1, e2, e3]
theorem RepL.open2 (r : RepL K B xs [d1, d2]) : ∃ u1 u2, xs = [u1, u2] ∧ Rep K B u1 d1 ∧ Rep K B u2 d2 := by
  cases r with | cons h1 r => cases r with | cons h2 r => cases r; exact ⟨_, _, rfl, h1, h2⟩
theorem RepL.open3 (r : RepL K B xs [d1, d2, d3]) : ∃ u1 u2 u3, xs = [u1, u2, u3] ∧ Rep K B u1 d1 ∧ Rep K B u2 d2 ∧ Rep K B u3 d3 := by
  cases r with | cons h1 r => cases r with | cons h2 r => cases r with | cons h3 r => cases r; exact ⟨_, _, _, rfl, h1, h2, h3⟩
theorem RepL.open4 (r : RepL K B xs [d1, d2, d3, d4]) : ∃ u1 u2 u3 u4, xs = [u1, u2, u3, u4] ∧ Rep K B u1 d1 ∧ Rep K B u2 d2 ∧ Rep K B u3 d3 ∧ Rep K B u4 d4 := by
  cases r with | cons h1 r => cases r with | cons h2 r => cases r with | cons h3 r => cases r with | cons h4 r => cases r; exact ⟨_, _, _, _, rfl, h1, h2, h3, h4⟩
end
/-! ### defs with defaults -/
structure FunV (K : PySem.W.Frag) (x qual : Str) (st : Stmt) (dv : List Value) (f : Addr) (fd : FuncData) : Prop where
  ex : ∃ (oc : Value) (od : Option Addr) (T : Addr) (o : Obj) (n : Nat) (kV doc pm : Value) (an : Option Addr) (cdv ct : Value) (osl : Array (Option Value)),
    fd = PySem.W.fnOf x qual (defArgs st) (defBody st) (defScope st) (.ref T) kV doc pm an cdv ct ∧ K.lookup f = some ⟨oc, od, .func fd, osl⟩ ∧ PySem.W.codeIn K cdv qual = true ∧ K.lookup T = some o ∧ o.data = .seq dv.toArray n
  kp : PySem.W.keepIn K (.ref f) = true
section
variable {P : Program} {w : World} {K : PySem.W.Frag} {mg : Str → Option Value} {base : Heap} {x qual : Str} {st : Stmt} {dv : List Value} {f : Addr} {fd : FuncData} {ps ks : List Str}
theorem funV_mk {oc : Value} {od an oT : Option Addr} {osl sT : Array (Option Value)} {kV doc pm cdv ct cT : Value} {T : Addr} {n : Nat} (l : K.lookup f = some ⟨oc, od, .func (PySem.W.fnOf x qual (defArgs st) (defBody st) (defScope st) (.ref T) kV doc pm an cdv ct), osl⟩)
    (c : PySem.W.codeIn K cdv qual = true) (k : PySem.W.keepIn K (.ref f) = true) (lT : K.lookup T = some ⟨cT, oT, .seq dv.toArray n, sT⟩) : FunV K x qual st dv f (PySem.W.fnOf x qual (defArgs st) (defBody st) (defScope st) (.ref T) kV doc pm an cdv ct) :=
  ⟨⟨oc, od, T, _, n, kV, doc, pm, an, cdv, ct, osl, rfl, l, c, lT, rfl⟩, k⟩
theorem FunV.okX {N : List Str} {k : Nat} {sp : Sp} (F : FunV K x qual st dv f fd) (S : FnScope N ps (defScope st)) (len : ∀ vs H Q E, sp vs H Q E → vs.length = ps.length)
    (hbody : ∀ (cdv : Value) (A : Around) (outer : List Env) (s : Shared) (H : Hp) (vs : List V) (Q : VK) (E : XK), Room k (A.deeper (envOfC qual (defScope st) s.heap.objs.size f cdv)) → sp vs H Q E →
      ∃ t, PSs (cxOf (L2.CX P w) P w K mg base N qual (defScope st) f cdv A outer s H E) (defBody st) t ∧ t { nx := fun _ H' => Q .non H', rt := Q } (start N vs) H) : FnOk P w K mg base (L2.CX P w) (k + 1) f fd ps sp := by
  obtain ⟨oc, od, T, o, n, kV, doc, pm, an, cdv, ct, osl, rfl, lk, hcd, _, _⟩ := F.ex
  exact fn_of lk hcd S len fun A outer s H vs Q E hr hsp => hbody cdv A outer s H vs Q E hr hsp
theorem FunV.ok {N : List Str} {k : Nat} {sp : Sp} (F : FunV K x qual st dv f fd) (S : FnScope N ps (defScope st)) (len : ∀ vs H Q E, sp vs H Q E → vs.length = ps.length)
    (hbody : ∀ (cdv : Value) (A : Around) (outer : List Env) (s : Shared) (H : Hp) (vs : List V) (Q : VK) (E : XK), Room k (A.deeper (envOfC qual (defScope st) s.heap.objs.size f cdv)) → sp vs H Q E →
      ∃ t, PSs (cxOf CX0 P w K mg base N qual (defScope st) f cdv A outer s H E).nox (defBody st) t ∧ t { nx := fun _ H' => Q .non H', rt := Q } (start N vs) H) : FnOk P w K mg base CX0 (k + 1) f fd ps sp := by
  obtain ⟨oc, od, T, o, n, kV, doc, pm, an, cdv, ct, osl, rfl, lk, hcd, _, _⟩ := F.ex
  refine fn_of lk hcd S len fun A outer s H vs Q E hr hsp => ?_
  obtain ⟨t, h, q⟩ := hbody cdv A outer s H vs Q E hr hsp
  exact ⟨t, h.nox, q⟩
/-- n values are written, the defaults behind the first j fill up -/
theorem FunV.binds (F : FunV K x qual st dv f fd) (n j : Nat) (hn : n + (dv.length - j) = ps.length)
    (h : ∀ (T : Addr) (kV doc pm : Value) (an : Option Addr) (cdv ct : Value) (us : List Value), us.length = n →
      ∃ k, bindArgs (PySem.W.fnOf x qual (defArgs st) (defBody st) (defScope st) (.ref T) kV doc pm an cdv ct) ⟨us, []⟩ = seqItems? (.ref T) >>= k ∧ k (some dv.toArray) = pure (ps.zip (us ++ dv.drop j))) : Binds K fd ps (dv.drop j) := by
  obtain ⟨oc, od, T, o, m, kV, doc, pm, an, cdv, ct, osl, rfl, lk, hcd, lT, oT⟩ := F.ex
  refine fun s us X hlen => ?_
  have l2 : us.length = n := by
    rw [List.length_append, List.length_drop] at hlen
    omega
  obtain ⟨k, e1, e2⟩ := h T kV doc pm an cdv ct us l2
  refine BindsTo.of_looks fun M => ?_
  rw [e1]
  exact looks_items X lT oT (.of_pure e2)
theorem FunV.kb {g : List Value → List Value → List Value} {gV : List V → List V → List V} (F : FunV K x qual st dv f fd)
    (h : ∀ (T : Addr) (kV doc pm : Value) (an : Option Addr) (cdv ct : Value) (us ws : List Value), (g us ws).length = ps.length → ∃ k, bindArgs (PySem.W.fnOf x qual (defArgs st) (defBody st) (defScope st) (.ref T) kV doc pm an cdv ct) ⟨us, ks.zip ws⟩ = seqItems? (.ref T) >>= k ∧ k (some dv.toArray) = pure (ps.zip (g us ws)))
    (r : ∀ {vs : List V} {us : List Value} {zs : List V} {ws : List Value}, Vals vs us → Vals zs ws → Vals (gV vs zs) (g us ws)) : KBinds K fd ps ks g gV := by
  obtain ⟨oc, od, T, o, m, kV, doc, pm, an, cdv, ct, osl, rfl, lk, hcd, lT, oT⟩ := F.ex
  refine ⟨fun s us ws X hl => ?_, r⟩
  obtain ⟨k, e1, e2⟩ := h T kV doc pm an cdv ct us ws hl
  refine BindsTo.of_looks fun M => ?_
  rw [e1]
  exact looks_items X lT oT (.of_pure e2)
end
/-! ### // by what may be negative -/
def CDivZ (_ j : Int) : Prop := j ≠ 0 ∧ j.natAbs.log2 < 9000
instance {i j : Int} : Decidable (CDivZ i j) := inferInstanceAs (Decidable (_ ∧ _))
theorem op_fdivZ {X : Cx} : OpR X (binaryOp .FloorDiv) (rI CDivZ fun i j => .int (Int.fdiv i j)) := opI fun i j _ _ _ _ _ hc q => floordiv_int hc.1 q (.inl (PyProof.noPylong_of_log2 hc.2))
/-! ### x is None -/
def isNonD : D → Bool | .non => true | _ => false
def rIsN : V → V → Hp → VK → Prop := fun x y H Q => y = .non ∧ Q (.bl (decide (x = .non))) H
def rNotN : V → V → Hp → VK → Prop := fun x y H Q => y = .non ∧ Q (.bl (!decide (x = .non))) H
theorem op_isNn {X : Cx} : OpR X (compareOp .Is) rIsN := op_isN
theorem op_notNn {X : Cx} : OpR X (compareOp .IsNot) rNotN := op_notN
section
variable {K : PySem.W.Frag} {B H : Hp} {Q : VK} {v : V} {d : D}
theorem Rep.isNon (r : Rep K B v d) : decide (v = .non) = isNonD d := by
  cases r <;> rfl
theorem h_isN (r : Rep K B v d) (h : Q (.bl (isNonD d)) H) : rIsN v .non H Q := ⟨rfl, by rw [r.isNon]; exact h⟩
theorem h_notN (r : Rep K B v d) (h : Q (.bl (!isNonD d)) H) : rNotN v .non H Q := ⟨rfl, by rw [r.isNon]; exact h⟩
end
/-! ### bool + bool, comparisons of lists, xs[::-1], xs.pop(i) -/
theorem int_add_bb (a b : Bool) : Gives (Builtin.«int.__add__» ⟨[.bool a, .bool b], []⟩) (.int ((if a = true then (1 : Int) else 0) + (if b = true then (1 : Int) else 0))) :=
  .of_wp fun M A E s Q h => by obtain ⟨hp, g, d, tk, os⟩ := s; wp_walk; exact ⟨_, rfl, h⟩
def rAddBB : V → V → Hp → VK → Prop := fun x y H Q => ∃ a b, x = .bl a ∧ y = .bl b ∧ Q (.int (b2z a + b2z b)) H
theorem op_addBB {X : Cx} : OpR X (binaryOp .Add) rAddBB := by
  intro pins s σ H x y v u Q I rx ry h
  obtain ⟨a, b, rfl, rfl, q⟩ := h
  cases rx
  cases ry
  exact binaryOp_gives (op := .Add) (T := "bool") rfl rfl F.fills_bool_add F.slot_bool_add F.entry_int_add (F.args_int_add_2 _ _) (int_add_bb a b) trivial ⟨.int (b2z a + b2z b), H, I.tok _, ⟨_, rfl⟩, q⟩
def rAddIB : V → V → Hp → VK → Prop := fun x y H Q => ∃ i k, x = .int i ∧ y = .bl k ∧ Q (.int (i + b2i k)) H
theorem op_addIB {X : Cx} : OpR X (binaryOp .Add) rAddIB := op_add_ib
section
variable {K : PySem.W.Frag} {B B' H H' : Hp} {σ : L2.St} {Q : VK} {x y v : V} {d e : D} {p q : Addr} {xs ys : List V} {te : TE}
theorem h_addBB {a b : Bool} (h : Q (.int (b2z a + b2z b)) H) : rAddBB (.bl a) (.bl b) H Q := ⟨a, b, rfl, rfl, h⟩
theorem h_addIB {i : Int} {k : Bool} (h : Q (.int (i + b2z k)) H) : rAddIB (.int i) (.bl k) H Q := ⟨i, k, rfl, rfl, by cases k <;> exact h⟩
/-- what may be compared as data -/
def Cmp (K : PySem.W.Frag) (H : Hp) (v : V) (d : D) : Prop := flatD d = true → Dp K H v (pyD d)
theorem Rep.cp (w : Ex B H) (r : Rep K B v d) : Cmp K H v d := r.dp w
theorem SqL.cp {ds : List D} (w : Ex B H) (s : SqL K H p xs) (r : RepL K B xs ds) : Cmp K H (.ref p) (.lst ds) := fun f => .lst s (RepL.dp w r f)
theorem h_eqC (rx : Cmp K H x d) (ry : Cmp K H y e) (o : okEq d e) (h : Q (.bl (eqD d e)) H) : rEqD K x y H Q := ⟨_, _, rx o.1, ry o.2.1, o.2.2.1, o.2.2.2, h⟩
theorem h_neC (rx : Cmp K H x d) (ry : Cmp K H y e) (o : okEq d e) (h : Q (.bl (!eqD d e)) H) : rNeD K x y H Q := ⟨_, _, rx o.1, ry o.2.1, o.2.2.1, o.2.2.2, h⟩
/-- xs[::-1] -/
theorem h_revL (h : te σ H fun x H1 => ∃ a xs, x = .ref a ∧ SqL K H1 a xs ∧ NwL xs.reverse H1 Q) : tRevL K te σ H Q := h
theorem h_revQ (s : SqL K H p xs) (h : NwL xs.reverse H Q) : ∃ a ys, V.ref p = .ref a ∧ SqL K H a ys ∧ NwL ys.reverse H Q := ⟨p, xs, rfl, s, h⟩
theorem RepL.rev0 : ∀ {xs : List V} {ds : List D}, RepL K B xs ds → RepL K B xs.reverse ds.reverse
  | _, _, .nil => .nil
  | _, _, .cons h t => by rw [List.reverse_cons, List.reverse_cons]; exact (RepL.rev0 t).append (.cons h .nil)
theorem RepL.rev {α : Type} [Enc α] {l : List α} (r : RepL K B xs (l.map enc)) : RepL K B xs.reverse (l.reverse.map enc) := by
  rw [List.map_reverse]
  exact RepL.rev0 r
theorem RepL.erase : ∀ {xs : List V} {ds : List D} (k : Nat), RepL K B xs ds → RepL K B (xs.eraseIdx k) (ds.eraseIdx k)
  | _, _, _, .nil => .nil
  | _, _, 0, .cons h t => t
  | _, _, k + 1, .cons h t => .cons h (RepL.erase k t)
theorem map_erase {α : Type} [Enc α] : ∀ (l : List α) (k : Nat), (l.eraseIdx k).map (enc : α → D) = (l.map enc).eraseIdx k
  | [], _ => rfl
  | _ :: _, 0 => rfl
  | x :: xs, k + 1 => congrArg (enc x :: ·) (map_erase xs k)
/-- l.pop(i), i from 0 on -/
def popR {α : Type} (l : List α) (i : Int) : Res (α × List α) := if 0 ≤ i ∧ i < (l.length : Int) ∧ l.length ≤ 1000000 then match l[i.toNat]? with | some x => .ok (x, l.eraseIdx i.toNat) | none => .stuck else .stuck
theorem Post.pop {α β : Type} {l : List α} {i : Int} {k : α × List α → Res β} {P : β → Prop} {R : Err → Prop} (h : Post ((popR l i).bind k) P R) : ∃ x, (0 ≤ i ∧ i < (l.length : Int) ∧ l.length ≤ 1000000) ∧ l[i.toNat]? = some x ∧ Post (k (x, l.eraseIdx i.toNat)) P R := by
  unfold popR at h
  by_cases c : 0 ≤ i ∧ i < (l.length : Int) ∧ l.length ≤ 1000000
  · rw [if_pos c] at h
    cases e : l[i.toNat]? with
    | none => rw [e] at h; exact h.elim
    | some x => rw [e] at h; exact ⟨x, c, rfl, h⟩
  · rw [if_neg c] at h; exact h.elim
theorem h_popL {α : Type} [Enc α] {l : List α} {i : Int} {b : α} (w : Ex B H) (m : Mu K B H p (l.map enc)) (hi : 0 ≤ i ∧ i < (l.length : Int) ∧ l.length ≤ 1000000) (hb : l[i.toNat]? = some b)
    (h : ∀ y H', Stp [p] B H B H' → Mu K B H' p ((l.eraseIdx i.toNat).map enc) → Rep K B y (enc b) → Q y H') : rPopAt (.ref p) [.int i] H Q := by
  obtain ⟨hb0, xs, hp, hr⟩ := id m
  have hl : xs.length = l.length := by rw [hr.length, List.length_map]
  obtain ⟨u, hu, ru⟩ := hr.get (i := i.toNat) (d := enc b) (by rw [List.getElem?_map, hb]; rfl)
  have rl : RepL K B (xs.eraseIdx i.toNat) ((l.eraseIdx i.toNat).map enc) := by
    rw [map_erase]
    exact RepL.erase _ hr
  refine ⟨p, xs, i, i.toNat, u, rfl, rfl, hp, by omega, by omega, ?_, hu, ?_⟩
  · unfold seqIndex?
    rw [hl]
    simp [show ¬ i < 0 from by omega, hi.1, hi.2.1]
  · obtain ⟨s, m'⟩ := Stp.mut w m rl
    exact h _ _ s m' ru
end
theorem pg_tupK {X : Cx} {pos : Pos} {es : List Expr} {k : Nat} {t : TGs} {n : Nat} {K : PySem.W.Frag} (hc : X.calm = true) (hK : X.K = K) (h : PGs X es t)
    (hn : (assignEach es X.env).length = n := by rfl) (hst : (assignEach es X.env).findIdx? (·.1) = none := by rfl) : PG X (.Tuple es k pos) (gTup K n t) := hK ▸ pg_tup hc h hn hst
/-! ### l * k, casts, constants -/
theorem list_mulW (l : Addr) (items : Array Value) (n : Nat) (dd : Option Addr) (sl : Array (Option Value)) (x : Int) (u : Tok) (hc0 : ¬(!Builtin.List.listFitsIndex x) = true) (hc1 : ¬items.size * x.toNat > (2 ^ 63 - 1) / 8) (hc2 : ¬Builtin.List.listTooLong (items.size * x.toNat) = true) :
    Meets (Builtin.«list.__mul__» ⟨[.ref l, .int x u], []⟩) (fun _ R s => s.heap.get? l = some { cls := .type "list", dict := dd, data := .seq items n, slots := sl } ∧ R (.ok (.ret (Value.ref s.heap.objs.size))) { s with heap := s.heap.push { cls := Value.type "list", data := Data.seq (List.foldl (fun x1 x2 => x1 ++ x2) #[] (List.replicate (if items.isEmpty = true then 0 else x.toNat) items)) }, toks := s.toks }) :=
  .of_wp fun prog w A R s h => by
    obtain ⟨hp, g, d, tk, os⟩ := s; obtain ⟨hl, h⟩ := h
    have hsz := PySem.AutoListH.joined_fits hc2
    wp_walk; refine wpAny_ite_false (decide_eq_false (Nat.not_lt.mpr hsz)) ?_; wp_walk; exact ⟨_, rfl, h⟩
theorem int_rmulW (a : Int) (t : Tok) (l : Addr) (items : Array Value) (n : Nat) (dd : Option Addr) (sl : Array (Option Value)) :
    Meets (Builtin.«int.__rmul__» ⟨[.int a t, .ref l], []⟩) (fun _ R s => s.heap.get? l = some { cls := .type "list", dict := dd, data := .seq items n, slots := sl } ∧ R (.ok (.ret Value.notImplemented)) s) :=
  .of_wp fun prog w A R s h => by obtain ⟨hp, g, d, tk, os⟩ := s; obtain ⟨hl, h⟩ := h; wp_walk; exact ⟨_, rfl, h⟩
def rRepQ (K : PySem.W.Frag) : R2 := fun x y H Q => ∃ l k xs, x = .ref l ∧ y = .int k ∧ SqL K H l xs ∧ -(2 ^ 63) ≤ k ∧ k < 2 ^ 63 ∧ xs.length * k.toNat ≤ sizeLine ∧ NwL (List.replicate k.toNat xs).flatten H Q
theorem op_repQ {X : Cx} : OpR X (binaryOp .Mult) (rRepQ X.K) := by
  intro pins s σ H x y v u Q I rx ry h
  obtain ⟨l, k, xs, rfl, rfl, hH, h1, h2, hz, q⟩ := h
  cases rx
  obtain ⟨t, rfl⟩ := ry
  obtain ⟨its, r, p1, z⟩ := I.list hH
  have hl := r.length
  obtain ⟨⟨cls, dd, data, sl⟩, e, hc, n, hd⟩ := p1.isList
  simp only at hc hd
  subst hc hd
  have hlen : its.toArray.size * k.toNat ≤ sizeLine := by rw [List.size_toArray, ← hl]; exact hz
  have hcap : ¬ its.toArray.size * k.toNat > (2 ^ 63 - 1) / 8 := by
    have : (sizeLine : Nat) ≤ (2 ^ 63 - 1) / 8 := by decide
    omega
  have hfit : ¬ (!Builtin.List.listFitsIndex k) = true := by
    rw [fitsIndex_both h1 h2]
    exact Bool.false_ne_true
  have hlong : ¬ Builtin.List.listTooLong (its.toArray.size * k.toNat) = true := by
    rw [notLongL hlen]
    exact Bool.false_ne_true
  have hnew : List.foldl (fun x1 x2 => x1 ++ x2) #[] (List.replicate (if its.toArray.isEmpty = true then 0 else k.toNat) its.toArray) = (List.replicate k.toNat its).flatten.toArray := by
    have f0 : ∀ m : Nat, List.foldl (fun x1 x2 => x1 ++ x2) #[] (List.replicate m its.toArray) = (List.replicate m its).flatten.toArray := fun m => by
      have := foldl_rep its m []
      rw [List.nil_append] at this
      exact this
    rw [f0]
    cases its with
    | nil => simp
    | cons a r' => rw [if_neg (by simp)]
  refine wpAny_binaryOp_repeat_ref (T := "list") (U := "int") (by decide) ⟨_, e, rfl⟩ (fun s' => typeIs_int s' k t) noFill_list_mul F.fills_int_mul F.slot_int_rmul repeat_list F.slot_int_index.lookup
    (call_meets F.slot_int_rmul (typeIs_int s k t) F.entry_int_rmul (F.args_int_rmul_2 _ _) (int_rmulW k t l its.toArray n dd sl)
      ⟨e, rfl, ⟨_, e, rfl⟩, call_meets F.slot_list_mul ⟨_, e, rfl⟩ F.entry_list_mul (F.args_list_mul_2 _ _) (list_mulW l its.toArray n dd sl k t hfit hcap hlong) ⟨e, ?_⟩⟩)
  rw [hnew]
  exact ⟨.ref _, _, I.lnew (t' := s.toks) (r.rep k.toNat) (by rw [PyProof.Rows.lm_len_rep_flat, Nat.mul_comm]; exact hz), rfl, q _ I.fresh⟩
section
variable {K : PySem.W.Frag} {B B' H H' : Hp} {σ : L2.St} {Q : VK} {x y v : V} {d e : D} {p q : Addr} {xs ys : List V} {te : TE}
theorem h_repQ {k : Int} {n : Nat} (s : SqL K H p xs) (hn : xs.length = n) (hz : n * k.toNat ≤ 1000000 ∧ -(2 ^ 62) ≤ k ∧ k < 2 ^ 62) (h : NwL (List.replicate k.toNat xs).flatten H Q) : rRepQ K (.ref p) (.int k) H Q :=
  ⟨p, k, xs, rfl, rfl, s, by omega, by omega, by rw [hn]; exact Nat.le_trans hz.1 (by decide), h⟩
theorem RepL.rep0 {ds : List D} (r : RepL K B xs ds) : ∀ k : Nat, RepL K B (List.replicate k xs).flatten (List.replicate k ds).flatten
  | 0 => .nil
  | k + 1 => by rw [List.replicate_succ, List.replicate_succ, List.flatten_cons, List.flatten_cons]; exact r.append (RepL.rep0 r k)
/-- l * k -/
def timesL {α : Type} (l : List α) (k : Int) : List α := (List.replicate k.toNat l).flatten
theorem RepL.times {α : Type} [Enc α] {l : List α} (r : RepL K B xs (l.map enc)) (k : Int) : RepL K B (List.replicate k.toNat xs).flatten ((timesL l k).map enc) := by
  have e : (timesL l k).map (enc : α → D) = (List.replicate k.toNat (l.map enc)).flatten := by
    unfold timesL
    rw [List.map_flatten, List.map_replicate]
  rw [e]
  exact r.rep0 _
/-- isinstance of a list that is only read, or of our own -/
theorem isiL {t : String} {l : List D} (s : SqL K H p xs) (q : Q (.bl (isA t (.lst l))) H) (ht : t ∈ ["bool", "int", "str", "list", "tuple", "dict"] := by simp) : rIsi K [.ref p, .ty t] H Q := by
  have ty : TyX K H (.ref p) (.type "list") := by
    rcases s with (h | ⟨o, h⟩) | ⟨o, its, n, h, hc, _⟩
    · exact .base (.lst h)
    · exact .base (.frz h)
    · exact .kList h hc
  exact ⟨.ref p, .ty t, _, .type t, isA t (.lst l), rfl, .ty t, ty, kit_ty (kit_tab _ (tyD_in (.lst l) rfl) _ ht), q⟩
end
/-! ### things read as what they are -/
class Dec (α : Type) [Enc α] where
  dec : D → Option α
  ok : ∀ d x, dec d = some x → d = enc x
instance : Dec D := ⟨fun d => some d, fun d x e => Option.some.inj e⟩
instance : Dec Int := ⟨fun d => match d with | .int i => some i | _ => none, fun d x e => by cases d <;> simp at e; rw [e]; rfl⟩
instance : Dec Bool := ⟨fun d => match d with | .bl i => some i | _ => none, fun d x e => by cases d <;> simp at e; rw [e]; rfl⟩
instance : Dec Str := ⟨fun d => match d with | .str i => some i | _ => none, fun d x e => by cases d <;> simp at e; rw [e]; rfl⟩
instance {α : Type} [Enc α] [Dec α] : Dec (Option α) := ⟨fun d => match d with | .non => some none | d => (Dec.dec d).map some, fun d x e => by
  cases d with
  | non => cases Option.some.inj e; rfl
  | _ => all_goals
    obtain ⟨y, e1, e2⟩ := Option.map_eq_some_iff.mp (show Option.map some _ = some x from e)
    rw [← e2]
    show _ = (enc y : D)
    exact Dec.ok _ _ e1⟩
instance {α β : Type} [Enc α] [Enc β] [Dec α] [Dec β] : Dec (Tp2 α β) := ⟨fun d => match d with | .tup [a, b] => (Dec.dec a).bind fun x => (Dec.dec b).bind fun y => some ⟨x, y⟩ | _ => none, fun d x e => by
  split at e
  · obtain ⟨u, e1, e⟩ := Option.bind_eq_some_iff.mp e
    obtain ⟨w, e2, e⟩ := Option.bind_eq_some_iff.mp e
    cases Option.some.inj e
    rw [Dec.ok _ _ e1, Dec.ok _ _ e2]
    rfl
  · cases e⟩
instance {α β γ : Type} [Enc α] [Enc β] [Enc γ] [Dec α] [Dec β] [Dec γ] : Dec (Tp3 α β γ) := ⟨fun d => match d with | .tup [a, b, c] => (Dec.dec a).bind fun x => (Dec.dec b).bind fun y => (Dec.dec c).bind fun z => some ⟨x, y, z⟩ | _ => none, fun d x e => by
  split at e
  · obtain ⟨u, e1, e⟩ := Option.bind_eq_some_iff.mp e
    obtain ⟨w, e2, e⟩ := Option.bind_eq_some_iff.mp e
    obtain ⟨w2, e3, e⟩ := Option.bind_eq_some_iff.mp e
    cases Option.some.inj e
    rw [Dec.ok _ _ e1, Dec.ok _ _ e2, Dec.ok _ _ e3]
    rfl
  · cases e⟩
def decs {α : Type} [Enc α] [Dec α] : List D → Option (List α)
  | [] => some []
  | d :: ds => (Dec.dec d).bind fun x => (decs ds).bind fun xs => some (x :: xs)
theorem decs_ok {α : Type} [Enc α] [Dec α] : ∀ (ds : List D) (l : List α), decs ds = some l → ds = l.map enc
  | [], l, e => by cases Option.some.inj e; rfl
  | d :: ds, l, e => by
    obtain ⟨u, e1, e⟩ := Option.bind_eq_some_iff.mp e
    obtain ⟨w, e2, e⟩ := Option.bind_eq_some_iff.mp e
    cases Option.some.inj e
    rw [Dec.ok _ _ e1, decs_ok _ _ e2]
    rfl
instance {α : Type} [Enc α] [Dec α] : Dec (List α) := ⟨fun d => match d with | .lst ds => decs ds | _ => none, fun d x e => by
  split at e
  · rw [decs_ok _ _ e]; rfl
  · cases e⟩
def asD (α : Type) [Enc α] [Dec α] (d : D) : Res α := match Dec.dec d with | some x => .ok x | none => .stuck
theorem Post.asD {α β : Type} [Enc α] [Dec α] {d : D} {k : α → Res β} {P : β → Prop} {R : Err → Prop} (h : Post ((Y.asD α d).bind k) P R) : ∃ x, d = enc x ∧ Post (k x) P R := by
  unfold Y.asD at h
  cases e : Dec.dec (α := α) d with
  | none => rw [e] at h; exact h.elim
  | some x => rw [e] at h; exact ⟨x, Dec.ok _ _ e, h⟩
/-- what is there -/
def someR {α : Type} (o : Option α) : Res α := match o with | some x => .ok x | none => .stuck
theorem Post.some {α β : Type} {o : Option α} {k : α → Res β} {P : β → Prop} {R : Err → Prop} (h : Post ((someR o).bind k) P R) : ∃ x, o = Option.some x ∧ Post (k x) P R := by
  cases o with
  | none => exact h.elim
  | some x => exact ⟨x, rfl, h⟩
/-- a constant of the module: data that is written out -/
structure CT {α : Type} [Enc α] (K : PySem.W.Frag) (mg : Str → Option Value) (nm : Str) (C : Addr) (x : α) : Prop where
  g : mg nm = Option.some (.ref C)
  rep : ∀ B, Rep K B (.ref C) (enc x)
/-! ### defs that hand a new list back; l.pop() -/
def RetF (K : PySem.W.Frag) (W : List Addr) (B H : Hp) (ds : List D) (Q : VK) : Prop := ∀ p B' H', Stp W B H B' H' → H p = none → Mu K B' H' p ds → Q (.ref p) H'
def RetMF (K : PySem.W.Frag) (q : Addr) (B H : Hp) (ds es : List D) (Q : VK) : Prop := ∀ p B' H', Stp [q] B H B' H' → H p = none → Mu K B' H' p ds → Mu K B' H' q es → Q (.ref p) H'
def popE {α : Type} (l : List α) : Res (α × List α) := match l[l.length - 1]? with | some x => .ok (x, l.dropLast) | none => .stuck
theorem Post.popE {α β : Type} {l : List α} {k : α × List α → Res β} {P : β → Prop} {R : Err → Prop} (h : Post ((Y.popE l).bind k) P R) : ∃ x, l[l.length - 1]? = Option.some x ∧ Post (k (x, l.dropLast)) P R := by
  unfold Y.popE at h
  cases e : l[l.length - 1]? with
  | none => rw [e] at h; exact h.elim
  | some x => rw [e] at h; exact ⟨x, rfl, h⟩
section
variable {K : PySem.W.Frag} {B H : Hp} {Q : VK} {p : Addr} {xs : List V}
theorem RepL.dropLast : ∀ {xs : List V} {ds : List D}, RepL K B xs ds → RepL K B xs.dropLast ds.dropLast
  | _, _, .nil => .nil
  | _, _, .cons _ .nil => .nil
  | _, _, .cons h (.cons h2 t) => .cons h (RepL.dropLast (.cons h2 t))
theorem h_popE {α : Type} [Enc α] {l : List α} {b : α} (w : Ex B H) (m : Mu K B H p (l.map enc)) (hb : l[l.length - 1]? = some b)
    (h : ∀ y H', Stp [p] B H B H' → Mu K B H' p (l.dropLast.map enc) → Rep K B y (enc b) → Q y H') : rPop (.ref p) [] H Q := by
  obtain ⟨hb0, xs, hp, hr⟩ := id m
  have hl : xs.length = l.length := by rw [hr.length, List.length_map]
  obtain ⟨u, hu, ru⟩ := hr.get (i := l.length - 1) (d := enc b) (by rw [List.getElem?_map, hb]; rfl)
  have rl : RepL K B xs.dropLast (l.dropLast.map enc) := by
    rw [List.map_dropLast]
    exact RepL.dropLast hr
  obtain ⟨s, m'⟩ := Stp.mut w m rl
  exact ⟨p, xs, u, rfl, rfl, hp, by rw [hl]; exact hu, h _ _ s m' ru⟩
end
end Y

set_option Elab.async false
set_option linter.all false
set_option maxRecDepth 100000
set_option maxHeartbeats 2000000
namespace Y
open PySem PySem.Spec PyProof.Rows
open L2
open Enc (enc)
/-! # more readings: max of two, insert, enumerate -/
theorem h_fr {t : TS} {D' : Ends} {σ σ' : L2.St} {H : Hp} (e : σ = σ') (h : t D' σ' H) : t D' σ H := by rw [e]; exact h
def maxI (i j : Int) : Int := if j > i then j else i
def rMaxY : List V → Hp → VK → Prop := fun xs H Q => ∃ i j, xs = [.int i, .int j] ∧ Q (.int (if j > i then j else i)) H
theorem cr_max {X : Cx} (hc : X.calm = true) : CallR X (.builtin "max") rMaxY := call_max2 hc
theorem h_max {i j : Int} {H : Hp} {Q : VK} (h : Q (.int (maxI i j)) H) : rMaxY [.int i, .int j] H Q := ⟨i, j, rfl, h⟩
def rInsY : V → List V → Hp → VK → Prop := fun x vs H Q => ∃ (l : Addr) (xs : List V) (i : Int) (y : V), x = .ref l ∧ vs = [.int i, y] ∧ H l = some (.lst xs) ∧ xs.length < sizeLine ∧ 0 ≤ i ∧ i < 2 ^ 63 ∧ Q .non (upd H l (.lst (xs.take i.toNat ++ [y] ++ xs.drop i.toNat)))
theorem mt_insY {X : Cx} : MtR X "list.insert" rInsY := mt_insert
def insL {α : Type} (l : List α) (i : Int) (b : α) : List α := l.take i.toNat ++ [b] ++ l.drop i.toNat
section
variable {K : PySem.W.Frag} {B B' H H' : Hp} {Q : VK} {p : Addr} {y : V} {i : Int}
theorem h_insert {α : Type} [Enc α] {l : List α} {b : α} (w : Ex B H) (m : Mu K B H p (l.map enc)) (ry : Rep K B y (enc b)) (hz : l.length < 1000000 ∧ 0 ≤ i ∧ i < 2 ^ 63) (h : ∀ H', Stp [p] B H B H' → Mu K B H' p ((insL l i b).map enc) → Q .non H') : rInsY (.ref p) [.int i, y] H Q := by
  obtain ⟨hb, xs, hp, hr⟩ := id m
  refine ⟨p, xs, i, y, rfl, rfl, hp, by rw [hr.length, List.length_map]; exact Nat.lt_of_lt_of_le hz.1 (by decide), hz.2.1, hz.2.2, ?_⟩
  have rl : RepL K B (xs.take i.toNat ++ [y] ++ xs.drop i.toNat) ((insL l i b).map enc) := by
    unfold insL
    rw [List.map_append, List.map_append, List.map_take, List.map_drop]
    exact ((hr.take _).append (.cons ry .nil)).append (hr.drop _)
  obtain ⟨s, m'⟩ := Stp.mut w m rl
  exact h _ s m'
end
/-- the things with their places -/
def enumL {α : Type} (l : List α) : List (Tp2 Int α) := l.mapIdx fun i x => ⟨(i : Int), x⟩
def En (K : PySem.W.Frag) (vs : List V) (g : TG) (tb : TS) (D' : Ends) (σ : L2.St) (H : Hp) : Prop := tFor (iEnum K (fun _ H Q => Q vs H)) g tb D' σ H
section
variable {K : PySem.W.Frag} {σ : L2.St} {B H : Hp} {p : Addr} {xs : List V} {tb : TS} {D' : Ends} {g : TG} {α β S : Type} {P : β → Prop} {R : Err → Prop}
theorem h_enumE {ta : TA} (h : ta σ H fun vs H1 => En K vs g tb D' σ H1) : tFor (iEnum K ta) g tb D' σ H := h
theorem h_forEn [Enc α] {l : List α} {s0 : S} {f : Tp2 Int α → S → Res (Fl S β)} {k : S → Res β} (hP : Post ((forR (enumL l) s0 f).bind (afterR k)) P R) (hs : SqL K H p xs) (hr : RepL K B xs (l.map enc))
    (J : S → L2.St → Hp → Prop) (h0 : J s0 σ H) (hl : ∀ s σ' H', J s σ' H' → SqL K H' p xs)
    (hb : ∀ (N : L2.St → Hp → Prop) (T : Fl S β → Prop) (x : Tp2 Int α) u s σ' H', J s σ' H' → Rep K B u (enc x.b) → (∀ s' σ2 H2, J s' σ2 H2 → T (.nx s') → N σ2 H2) → (∀ r, T (.rt r) → P r) → (∀ s' σ2 H2, J s' σ2 H2 → T (.bk s') → D'.nx σ2 H2) → Post (f x s) T R →
      NewT [.int x.a, u] H' fun v H1 => g v σ' H1 fun σ2 H2 => tb { D' with nx := N, ct := N, bk := D'.nx } σ2 H2)
    (hd : ∀ s σ' H', J s σ' H' → Post (k s) P R → D'.nx σ' H') : En K [.ref p] g tb D' σ H := by
  refine ⟨p, xs, rfl, hs, for_it (n := xs.length) walk_enum (fun i σ' H' => ∃ s, J s σ' H' ∧ Post (forR ((enumL l).drop i) s f) (fun a => Post (afterR k a) P R) R) ⟨s0, h0, hP.bind⟩ (fun i σ' H' _ ⟨s, j, _⟩ => hl s σ' H' j) ?_ ?_⟩
  · rintro i v σ' H' H2 hi ⟨s, j, q⟩ ⟨T, y1, y2, rfl, hT, rfl, h1, h2⟩
    cases Option.some.inj h1
    have hll : xs.length = l.length := by rw [hr.length, List.length_map]
    have hil : i < l.length := by omega
    have hx : (enumL l)[i]? = some ⟨(i : Int), l[i]⟩ := by
      unfold enumL
      rw [List.getElem?_mapIdx, List.getElem?_eq_getElem hil]
      rfl
    obtain ⟨u, hu, ru⟩ := hr.get (i := i) (d := enc l[i]) (by rw [List.getElem?_map, List.getElem?_eq_getElem hil]; rfl)
    have h2 : xs[i]? = some y2 := h2
    rw [h2] at hu; cases hu
    exact (hb _ _ ⟨(i : Int), l[i]⟩ y2 s σ' H' j ru (fun s' σ2 H2 j2 t2 => ⟨s', j2, t2⟩) (fun r t2 => (t2 : Post (.ok r) P R).ok) (fun s' σ2 H2 j2 t2 => hd s' σ2 H2 j2 t2) (q.turn hx)).2 T hT
  · rintro σ' H' ⟨s, j, q⟩
    exact hd s σ' H' j (q.forN (by unfold enumL; rw [List.length_mapIdx, hr.length, List.length_map]; exact Nat.le_refl _))
end
end Y

set_option Elab.async false
set_option linter.all false
set_option maxRecDepth 100000
set_option maxHeartbeats 4000000
namespace Y
open PySem PySem.Spec PyProof.Rows
open L2
/-! # a try whose clauses may each have a name -/
/-- a clause: what it names, the slot of its name, its suite's reading -/
structure Cl where
  c : Value
  nm : Option Nat
  ts : Addr → Value → Option Addr → TS
def Cl.ends (k : Cl) (D : Ends) : Ends := match k.nm with
  | none => D
  | some i => ⟨fun σ H => D.nx (σ.set i none) H, D.rt, fun σ H => D.bk (σ.set i none) H, fun σ H => D.ct (σ.set i none) H⟩
def Cl.slots (k : Cl) (σ : L2.St) (a : Addr) : L2.St := match k.nm with | none => σ | some i => σ.set i (some (.ref a))
def wMix (K : PySem.W.Frag) (Wout : WX) (D : Ends) : List Cl → WX
  | [] => Wout
  | k :: r => fun cls d σ H => ∃ b, PySem.W.exmOne K cls k.c = some b ∧ (b = true → ∀ a, H a = none → k.ts a cls d (k.ends D) (k.slots σ a) H) ∧ (b = false → wMix K Wout D r cls d σ H)
abbrev SuOk (X : Cx) (b₀ : Stmt) (su : List Stmt) (ts : Addr → Value → Option Addr → TS) : Prop :=
  ∀ (a : Addr) (oe : Obj) (cls : Value) (d : Option Addr) (pn : List (Addr × Obj)), Zc cls d oe → (∃ vs, oe.data = .fields vs) → PSs (X.suite a ((a, oe) :: pn)) (b₀ :: su) (ts a cls d)
inductive Mix (X : Cx) : List ExceptHandler → List Cl → Prop
  | nil : Mix X [] []
  | plain {x : Str} {c : Value} {ts : Addr → Value → Option Addr → TS} {b₀ : Stmt} {su : List Stmt} {p q : Pos} {hs : List ExceptHandler} {ks : List Cl}
      (hc : Names X x c) (hsu : SuOk X b₀ su ts) (r : Mix X hs ks) : Mix X (.ExceptHandler (some (.Name x p)) none (b₀ :: su) q :: hs) (⟨c, none, ts⟩ :: ks)
  | named {x n : Str} {i : Nat} {c : Value} {ts : Addr → Value → Option Addr → TS} {b₀ : Stmt} {su : List Stmt} {p q : Pos} {hs : List ExceptHandler} {ks : List Cl}
      (hN : X.N.Nodup) (hi : X.N[i]? = some n) (hl : X.env.kindOf n = some .local) (hc : Names X x c) (hsu : SuOk X b₀ su ts) (r : Mix X hs ks) : Mix X (.ExceptHandler (some (.Name x p)) (some n) (b₀ :: su) q :: hs) (⟨c, some i, ts⟩ :: ks)
/-- the exception is in flight here: what was known ahead of it -/
structure Fly (X : Cx) (a : Addr) (B : Heap) (sI s1 : Shared) (pins : List (Addr × Obj)) (σ : L2.St) (H : Hp) (cls : Value) (d : Option Addr) (h : Heap) : Prop where
  J : Inv X pins σ H sI
  nb : ∀ b o, sI.heap.get? b = some o → b ∉ frs X.stack → B.get? b = some o
  up : sI.heap.UpToSlots h
  na : H a = none
  os : s1.os = sI.os
  ag : AllBare s1.gens
  fl : HandSPX.FlyingZ B (X.env :: X.outer) a (Zc cls d) h
section
variable {X : Cx} {a : Addr} {B : Heap} {sI s1 : Shared} {pins : List (Addr × Obj)} {σ : L2.St} {H : Hp} {cls : Value} {d : Option Addr} {h : Heap}
theorem Fly.inv (F : Fly X a B sI s1 pins σ H cls d h) : Inv X pins σ H { s1 with heap := h } := F.J.landed F.nb F.fl.1 F.up F.os F.ag
theorem Fly.apart (F : Fly X a B sI s1 pins σ H cls d h) (hf : X.env.frame = some X.env.locals) (hs : X.stack = X.env :: X.outer) : a ≠ X.env.locals ∧ a ∉ X.fs := by
  obtain ⟨oe, vs, he, hz, hd⟩ := F.fl.there
  have key : ∀ e ∈ X.env :: X.outer, e.frame ≠ some a := fun e me q => by
    obtain ⟨_, o, ho, hn⟩ := F.fl.2.2.1.mem (List.mem_filterMap.mpr ⟨e, me, q⟩)
    rw [he] at ho
    cases ho
    exact hn _ hd
  exact ⟨fun z => key X.env List.mem_cons_self (by rw [hf, z]), fun m => by
    obtain ⟨e, me, q⟩ := List.mem_filterMap.mp m
    exact key e (List.mem_cons_of_mem _ me) q⟩
end
section
variable {X : Cx} {body : List Stmt} {h₀ : ExceptHandler} {hds : List ExceptHandler} {ks : List Cl} {pos : Pos} {tb : WX → TS} {Wout : WX}
/-- none of the clauses is right: it goes on -/
theorem fly_on {a : Addr} {B : Heap} {sI s1 : Shared} {pins : List (Addr × Obj)} {σ : L2.St} {H : Hp} {cls : Value} {d : Option Addr} {h : Heap} {Q : Flow → Shared → Prop} (hs : X.stack = X.env :: X.outer) (hf : X.env.frame = some X.env.locals) (tk : Takes X Wout)
    (F : Fly X a B sI s1 pins σ H cls d h) (w : Wout cls d σ H) : wpAny (model X.prog X.w) X.A (handleBy (.ref a) X.env []) Q X.xe { s1 with heap := h } := by
  apply wpAny_handleBy_nil
  have fl := F.fl
  obtain ⟨_, _, _, oe, vs, T, oT, tsl, he, hz, hd, h1, hr⟩ := fl
  have up1 : wpAny (model X.prog X.w) X.A (setFlight (.ref a) X.env.frame) (fun _ z => wpAny (model X.prog X.w) X.A (throw (.ref a) : Sem Flow) Q X.xe z) X.xe { s1 with heap := h } := by
    rw [hf]
    apply HandSPX.setFlight_upZ F.fl
    intro k hk uk
    apply wpAny_throw
    exact tk _ _ ⟨a, B, sI, pins, σ, H, cls, d, rfl, F.J, F.nb, F.up.trans uk, .inr (.inr (by rw [hs]; exact hk)), F.na, F.os, F.ag, w⟩
  unfold PySem.passOn
  apply wpAny_bind
  apply wpAny_field he hd h1
  rw [if_neg (show ¬ ((Value.ref T == Value.none) = true) from by simp)]
  first
    | exact wpAny_bind (wpAny_pure (wpAny_bind up1))
    | exact wpAny_bind up1
theorem fly_mix {a : Addr} {B : Heap} {sI s1 : Shared} {pins : List (Addr × Obj)} {σ : L2.St} {H : Hp} {cls : Value} {d : Option Addr} {h : Heap} {D : Ends} (hs : X.stack = X.env :: X.outer) (hf : X.env.frame = some X.env.locals) (tk : Takes X Wout) (ok : X.Ok)
    (F : Fly X a B sI s1 pins σ H cls d h) : ∀ {hds : List ExceptHandler} {ks : List Cl}, Mix X hds ks → wMix X.K Wout D ks cls d σ H → wpAny (model X.prog X.w) X.A (handleBy (.ref a) X.env hds) (SP X pins D) X.xe { s1 with heap := h } := by
  intro hds ks M
  obtain ⟨oe, vs, he, hz, hd⟩ := F.fl.there
  obtain ⟨nL, nF⟩ := F.apart hf hs
  have S := F.inv.suite he hd F.na nL nF
  have LT : PySem.W.Looks (model X.prog X.w) h (typeOf (.ref a)) cls := fun A Q E s k q => wpAny_typeOf_ref (k _ _ he) (by rw [hz.1]; exact q)
  have named : ∀ {x : Str} {c : Value} {np : Pos}, Names X x c → ∀ {Q E : Value → Shared → Prop}, Q c { s1 with heap := h } → wpAny (model X.prog X.w) (X.A.mark (some (.ref a))) (eval (.Name x np) X.env) Q E { s1 with heap := h } := by
    intro x c np hc Q E q
    rcases hc with ⟨g, db, g2 | ⟨g2, g3, g4⟩⟩
    · exact ld_glob (X := X.suite a ((a, oe) :: (X.pn ++ pins))) S g g2 q db
    · exact ld_blt (X := X.suite a ((a, oe) :: (X.pn ++ pins))) S g g2 g3 q g4 db
  induction M with
  | nil => exact fun w => fly_on hs hf tk F w
  | @plain x c ts b₀ su p q hs' ks' hc hsu r ih =>
    rintro ⟨b, hb, yes, no⟩
    apply wpAny_handleBy_cons (codeAny_handlers_test ?_) (by intro z; cases z)
    apply named hc
    apply (PySem.W.exm_one (M := model X.prog X.w) F.inv.kIn LT hb).here
    cases b
    · exact ih (no rfl)
    · apply codeAny_handlers_suite
      apply HandSPX.lands_againZ F.fl
      intro k fk uk
      have F' : Fly X a B sI s1 pins σ H cls d k := ⟨F.J, F.nb, F.up.trans uk, F.na, F.os, F.ag, fk⟩
      obtain ⟨oe', vs', he', hz', hd'⟩ := fk.there
      have S' := F'.inv.suite he' hd' F.na nL nF
      apply wpAny_mono ((hsu a oe' cls d (X.pn ++ pins) hz' ⟨_, hd'⟩).run [] _ _ H _ S' (yes rfl a F.na)) ?_ (fun _ _ z => z.elim)
      intro f t ht
      cases f <;> obtain ⟨σ6, ht⟩ := ht
      case ret => obtain ⟨σ7, H7, S7, r7, q7⟩ := ht; exact ⟨_, _, _, S7.unsuite ok, r7, q7⟩
      all_goals (obtain ⟨H6, S6, q6⟩ := ht; exact ⟨_, _, S6.unsuite ok, q6⟩)
  | @named x n i c ts b₀ su p q hs' ks' hN hi hl hc hsu r ih =>
    rintro ⟨b, hb, yes, no⟩
    apply wpAny_handleBy_cons (codeAny_handlers_test ?_) (by intro z; cases z)
    apply named hc
    apply (PySem.W.exm_one (M := model X.prog X.w) F.inv.kIn LT hb).here
    cases b
    · exact ih (no rfl)
    · apply codeAny_handlers_suite_as
      apply HandSPX.lands_againZ F.fl
      intro k fk uk
      have F' : Fly X a B sI s1 pins σ H cls d k := ⟨F.J, F.nb, F.up.trans uk, F.na, F.os, F.ag, fk⟩
      obtain ⟨oe', vs', he', hz', hd'⟩ := fk.there
      have S' := F'.inv.suite he' hd' F.na nL nF
      have hx : Loc X.env.scope n := .inl hl
      refine store_ok (X := X.suite a ((a, oe') :: (X.pn ++ pins))) (v := .ref a) S' hN hi hx rfl (fun t2 T2 => ?_) (.inr hl)
      apply wpAny_mono ((hsu a oe' cls d (X.pn ++ pins) hz' ⟨_, hd'⟩).run [] t2 _ H _ T2 (yes rfl a F.na)) ?_ (fun _ _ z => z.elim)
      intro f t ht
      have leave : ∀ {σ6 : L2.St} {H6 : Hp} {Q : Shared → Prop}, Inv (X.suite a ((a, oe') :: (X.pn ++ pins))) [] σ6 H6 t → (∀ t7, Inv X pins (σ6.set i none) H6 t7 → Q t7) →
          wpAny (model X.prog X.w) X.A (do bindName X.env n .none; unbindBehindTheSuite X.env n q) (fun _ t7 => Q t7) X.xe t := fun S6 hq => gone_ok (S6.unsuite ok) hN hi hl hq
      cases f <;> obtain ⟨σ6, ht⟩ := ht
      case ret => obtain ⟨σ7, H7, S7, r7, q7⟩ := ht; exact leave S7 fun t7 J7 => ⟨_, _, _, J7, r7, q7⟩
      all_goals (obtain ⟨H6, S6, q6⟩ := ht; exact leave S6 fun t7 J7 => ⟨_, _, J7, q6⟩)
def tTryM (K : PySem.W.Frag) (ks : List Cl) (Wout : WX) (tb : WX → TS) : TS := fun D σ H => tb (wMix K Wout D ks) D σ H
theorem ps_tryM {K : PySem.W.Frag} (hs : X.stack = X.env :: X.outer) (hf : X.env.frame = some X.env.locals) (tk : Takes X Wout)
    (hb : ∀ (W : WX) (pn : List (Addr × Obj)) (xe : Value → Shared → Prop), Takes (X.tr pn xe) W → PassesOwn (model X.prog X.w) X.A X.env xe → PSs (X.tr pn xe) body (tb W))
    (M : Mix X (h₀ :: hds) ks) (hK : X.K = K := by rfl) : PS X (.Try body (h₀ :: hds) [] [] pos) (tTryM K ks Wout tb) := by
  subst hK
  refine ⟨fun pins s σ H D I h => ?_⟩
  have ok := I.ok
  have hfr : X.A.frames = some (X.env :: X.outer) := by rw [ok.frames, hs]
  apply wpAny_Try_except
  refine wpAny_mono ((hb (wMix X.K Wout D ks) (X.pn ++ pins) _ ?_ PassesOwn.looking).run [] s σ H D (I.toTry _) h) ?_ (fun e t he => he)
  · intro u t xx
    obtain ⟨a, B, sI, pins', σ', H', cls, d, rfl, J', nb, up, sky, na, os, ag, w⟩ := xx
    rw [show (X.tr (X.pn ++ pins) _).stack = X.env :: X.outer from hs] at sky
    refine Sky.land Zc.steady hfr hf sky fun k fk uk => ?_
    exact fly_mix hs hf tk ok (D := D) ⟨J'.ofTry ok, nb, up.trans uk, na, os, ag, fk⟩ M w
  · intro f t ht
    cases f
    case ret => obtain ⟨v, σ', H', J', r, q⟩ := ht; exact ⟨v, σ', H', J'.ofTry ok, r, q⟩
    case next => obtain ⟨σ', H', J', q⟩ := ht; exact wpAny_execs_nil ⟨σ', H', J'.ofTry ok, q⟩
    all_goals (obtain ⟨σ', H', J', q⟩ := ht; exact ⟨σ', H', J'.ofTry ok, q⟩)
end

/-! ## isinstance of the exception, several classes -/
def rIsET (K : PySem.W.Frag) (D a : Addr) : List V → Hp → VK → Prop := fun xs H Q => ∃ (tp : Addr) (cs : List V) (us : List Value) (b : Bool), xs = [.ref a, .ref tp] ∧ H tp = some (.tup cs) ∧ Paired ClsV cs us ∧ PySem.W.kitAny K (.ref D) us = some b ∧ Q (.bl b) H
theorem call_isET {X : Cx} {a D : Addr} {oe : Obj} {pn : List (Addr × Obj)} (C : ExcC X.K D) (hz : Zc (.ref D) none oe) (hf : ∃ vs, oe.data = .fields vs) : CallR (X.suite a ((a, oe) :: pn)) (.builtin "isinstance") (rIsET X.K D a) := by
  rintro pins s σ H _ us Q I r ⟨tp, cs, ws, b, rfl, hT, k, e, q⟩
  obtain ⟨u1, u2, rfl, r1, r2⟩ := r.two
  cases (show u1 = Value.ref a from r1)
  cases (show u2 = Value.ref tp from r2)
  have hget := (I.pin (a, oe) (List.mem_append.mpr (.inl List.mem_cons_self))).1
  obtain ⟨vs, hv⟩ := hf
  obtain ⟨h1, h2⟩ := hz
  obtain ⟨c0, d0, dt0, sl0⟩ := oe
  dsimp only at h1 h2 hv
  subst h1 h2 hv
  have J : PySem.W.InstAt s.heap a ⟨.ref D, none, .fields vs, sl0⟩ D none := ⟨hget, rfl, rfl, trivial⟩
  obtain ⟨_, its, rv, o, g1, g2, n, g3⟩ := (show ObjOk X.prog X.w H s.heap tp (.tup cs) from I.hok tp _ hT)
  have e3 := ClsV.all k rv
  subst e3
  obtain ⟨oc, od, dt, sl⟩ := o
  dsimp only at g2 g3
  subst g2 g3
  exact PySem.W.kia_tup (PySem.W.handS_kitx_exc C.hg C.hk C.hs C.hd C.ha C.hn C.ht C.hm) I.kIn J g1 e (fun z => nomatch z) fun tk => ⟨.bl b, H, I.kept (t' := tk) fun _ _ z => z, rfl, q⟩
def tIsET (K : PySem.W.Frag) (a : Addr) (cls : Value) (d : Option Addr) (targs : TA) : TE := fun σ H Q => ∃ Dc, cls = .ref Dc ∧ d = none ∧ ExcC K Dc ∧ tCB (rIsET K Dc a) targs σ H Q
section
variable {K : PySem.W.Frag} {σ : L2.St} {B H : Hp} {Q : VK} {D' : Ends} {Wout : WX} {k : Cl} {r : List Cl} {mg : Str → Option Value} {nm : Str}
theorem pe_isET {X : Cx} {e : Expr} {a : Addr} {cls : Value} {d : Option Addr} {targs : TA} (hK : X.K = K) (h : ∀ Dc, cls = .ref Dc → d = none → ExcC K Dc → PE X e (tCB (rIsET K Dc a) targs)) : PE X e (tIsET K a cls d targs) :=
  ⟨fun pins s σ H Q I q => by
    obtain ⟨Dc, e1, e2, ec, q⟩ := q
    exact (h Dc e1 e2 ec).run pins s σ H Q I q⟩
theorem h_isET {a C : Addr} {targs : TA} (T : ExcT K mg nm C) (h : targs σ H fun vs H1 => rIsET K C a vs H1 Q) : tIsET K a (.ref C) none targs σ H Q := ⟨C, rfl, rfl, T.ec, h⟩
theorem kitA_nil {t : Value} : PySem.W.kitAny K t [] = some false := rfl
theorem kitA_f {t c : Value} {r : List Value} {b : Bool} (h : PySem.W.kitOne K t c = some false) (hr : PySem.W.kitAny K t r = some b) : PySem.W.kitAny K t (c :: r) = some b := by
  unfold PySem.W.kitAny
  rw [h]
  exact hr
theorem kitA_t {t c : Value} {r : List Value} (h : PySem.W.kitOne K t c = some true) : PySem.W.kitAny K t (c :: r) = some true := by
  unfold PySem.W.kitAny
  rw [h]
/-- a tuple of classes that was just laid -/
theorem h_clsTup {xs : List V} (w : Ex B H) (hn : xs.length ≤ sizeLine) (h : ∀ p, Stp [] B H B (upd H p (.tup xs)) → Q (.ref p) (upd H p (.tup xs))) : NewT xs H Q := ⟨hn, fun p hp => h p (Stp.newM w hp)⟩
theorem h_isETR {a C tp : Addr} {xs : List V} {us : List Value} {b : Bool} (hp : Paired ClsV xs us) (e : PySem.W.kitAny K (.ref C) us = some b) (q : Q (.bl b) (upd H tp (.tup xs))) : rIsET K C a [.ref a, .ref tp] (upd H tp (.tup xs)) Q := ⟨tp, xs, us, b, rfl, upd_same, hp, e, q⟩
/-- the clause meets the error -/
theorem h_mixHitA {C S' : Addr} {i : Nat} {ts : Addr → Value → Option Addr → TS} (T : ExcT K mg nm S') (hs : PySem.W.subIn K (.ref C) (.ref S') = some true)
    (h : ∀ a, H a = none → ts a (.ref C) none ⟨fun σ H => D'.nx (σ.set i none) H, D'.rt, fun σ H => D'.bk (σ.set i none) H, fun σ H => D'.ct (σ.set i none) H⟩ (σ.set i (some (.ref a))) H) : wMix K Wout D' (⟨.ref S', some i, ts⟩ :: r) (.ref C) none σ H :=
  ⟨true, T.exm hs, fun _ a ha => h a ha, fun q => nomatch q⟩
theorem h_mixHitO {C S' : Addr} {ts : Addr → Value → Option Addr → TS} (T : ExcT K mg nm S') (hs : PySem.W.subIn K (.ref C) (.ref S') = some true)
    (h : ∀ a, H a = none → ts a (.ref C) none D' σ H) : wMix K Wout D' (⟨.ref S', none, ts⟩ :: r) (.ref C) none σ H :=
  ⟨true, T.exm hs, fun _ a ha => h a ha, fun q => nomatch q⟩
theorem h_mixSkip {C S' : Addr} (hc : k.c = .ref S') (T : ExcT K mg nm S') (hs : PySem.W.subIn K (.ref C) (.ref S') = some false) (h : wMix K Wout D' r (.ref C) none σ H) : wMix K Wout D' (k :: r) (.ref C) none σ H :=
  ⟨false, by rw [hc]; exact T.exm hs, (fun q => nomatch q), fun _ => h⟩
theorem h_tryM {ks : List Cl} {tb : WX → TS} (h : tb (wMix K Wout D' ks) D' σ H) : tTryM K ks Wout tb D' σ H := h
end

/-! ## a list of lists of our own -/
def Raw (B H : Hp) (p : Addr) (xs : List V) : Prop := B p = none ∧ H p = some (.lst xs)
section
variable {K : PySem.W.Frag} {B B' H H' : Hp} {W : List Addr} {p q : Addr} {xs : List V} {Q : VK} {d e : D} {v u : V}
theorem Raw.step (m : Raw B H p xs) (s : Stp W B H B' H') (h : p ∉ W) : Raw B' H' p xs := ⟨s.nw p _ m.1 m.2, s.fr p _ h m.2⟩
theorem Raw.ne (m : Raw B H p xs) (h : H q = none) : p ≠ q := ne_of_none m.2 h
theorem Raw.kp {r : Addr} (m : Raw B H q xs) (_ : Ex B B') (k : ∀ q, q ≠ r → B q = none → B' q = none) (n : q ≠ r) : Raw B' H q xs := ⟨k q n m.1, m.2⟩
theorem Raw.sq (m : Raw B H p xs) : SqL K H p xs := SqL.of m.2
theorem h_newRaw (w : Ex B H) (hn : xs.length ≤ sizeLine) (h : ∀ p H', H p = none → Stp [] B H B H' → Raw B H' p xs → Q (.ref p) H') : NewL xs H Q := ⟨hn, fun p hp => h p _ hp (Stp.newM w hp) ⟨w.none hp, upd_same⟩⟩
theorem Cmp.pair (s : SqL K H p [v, u]) (h : Cmp K H v d) (h' : Cmp K H u e) : Cmp K H (.ref p) (.lst [d, e]) := fun f => by
  have f' : (flatD d && (flatD e && true)) = true := f
  simp only [Bool.and_true, Bool.and_eq_true] at f'
  exact .lst s (.cons (h f'.1) (.cons (h' f'.2) .nil))
end
end Y

/-! # a local name that holds a def -/
namespace Y
open PySem PySem.Spec PyProof.Rows
open L2
section
variable {X : Cx} {CX : CXT} {k : Nat} {f : Addr} {fd : FuncData} {ps : List Str} {sp : Sp} {dvs : List V} {ds : List Value} {E : L2.St → XK} {x : Str} {p pos : Pos} {e : Expr} {es : List Expr} {t tl : TA}
def tCallLS (i : Nat) (f : Addr) (sp : Sp) (dvs : List V) (E : L2.St → XK) (t : TA) : TE := fun σ H Q => σ[i]? = some (some (.ref f)) ∧ t σ H fun vs H1 => sp (vs ++ dvs) H1 Q (E σ)
theorem atOf {E : XK} (h : Passes CX X E) : ∀ σ, PassesAt CX X σ ((fun _ : L2.St => E) σ) := fun σ pins H s e s' I c => h pins σ H s e s' I c
theorem pe_callLS (i : Nat) (F : FnOk X.prog X.w X.K X.mg X.base CX k f fd ps sp) (hr : Room k X.A) (hk : PySem.W.keepIn X.K (.ref f) = true) (hb : L2.Binds X.K fd ps ds) (hd : Vals dvs ds) (hx : ∀ σ, PassesAt CX X σ (E σ)) (ha : PA X (e :: es) t)
    (hN : X.N[i]? = some x := by rfl) (hv : Vis X.env.scope x := by first | exact Or.inl rfl | exact Or.inr (Or.inl rfl) | exact Or.inr (Or.inr rfl))
    (hdb : (x == ("__debug__" : Str)) = false := by decide) (hcd : (x == ("__classdict__" : Str)) = false := by decide)
    (he : starEach (e :: es) X.env = (false, eval e X.env) :: starEach es X.env := by rfl) (hpl : (backTo pos (starEach es X.env)).any (·.1) = false := by rfl) : PE X (.Call (.Name x p) (e :: es) [] pos) (tCallLS i f sp dvs E t) := by
  refine ⟨fun pins s σ H Q I h => ?_⟩
  obtain ⟨hs, ht⟩ := h
  refine wpAny_Call_Name_kw (thn ((pe_var (pos := p) hN hv hdb hcd).run pins s σ H (fun v H1 => v = .ref f ∧ H1 = H) I ⟨.ref f, hs, rfl, rfl⟩) fun u s1 ⟨v, H1, I1, r1, q1⟩ => ?_)
  obtain ⟨rfl, rfl⟩ := q1
  cases r1
  refine PySem.W.callWith_K (h₀ := X.base) I.ok.mod.kin hk (thn (ha.run pos pins s1 σ _ _ I1 ht) fun us s2 ⟨vs, H2, I2, r, q⟩ => ⟨I2.kIn, ?_⟩) he hpl
  exact run_fnSD F hr hb hd (hx σ) I2 r q
theorem h_callLS {i : Nat} {σ : L2.St} {H : Hp} {Q : VK} (hs : σ[i]? = some (some (.ref f))) (h : tl σ H fun vs H1 => sp (vs ++ dvs) H1 Q (E σ)) : tCallLS i f sp dvs E tl σ H Q := ⟨hs, h⟩
end
end Y

set_option Elab.async false
set_option linter.all false
set_option maxRecDepth 100000
set_option maxHeartbeats 4000000
namespace Y
open PySem PySem.Spec PyProof.Rows
open L2
/-! # instances of the text's classes that stay as they are -/
/-- a class of the text, a name of the module -/
structure KI (K : PySem.W.Frag) (mg : Str → Option Value) (nm : Str) (C : Addr) : Prop extends KC K nm C where
  g : mg nm = some (.ref C)
  ty : PySem.W.typeIn K (.ref C) = some (.type "type")
  is : PySem.W.isClsIn K C = true
  self : PySem.W.subIn K (.ref C) (.ref C) = some true
theorem bt_of {K : PySem.W.Frag} {C : Addr} (a : PySem.W.subIn K (.ref C) (.type "bool") = some false) (b : PySem.W.subIn K (.ref C) (.type "int") = some false) (c : PySem.W.subIn K (.ref C) (.type "str") = some false)
    (d : PySem.W.subIn K (.ref C) (.type "list") = some false) (e : PySem.W.subIn K (.ref C) (.type "tuple") = some false) (f : PySem.W.subIn K (.ref C) (.type "dict") = some false) :
    ∀ t ∈ ["bool", "int", "str", "list", "tuple", "dict"], PySem.W.subIn K (.ref C) (.type t) = some false := by
  intro t ht
  simp only [List.mem_cons, List.not_mem_nil, or_false] at ht
  rcases ht with rfl | rfl | rfl | rfl | rfl | rfl
  · exact a
  · exact b
  · exact c
  · exact d
  · exact e
  · exact f
section
variable {K : PySem.W.Frag} {mg : Str → Option Value} {nm nm' f m : Str} {C C' C2 p dx : Addr} {B H B' H' : Hp} {fs : List (Str × V)} {ds : List (Str × D)} {d : D} {v : V} {Q : VK} {b : Bool} {σ : L2.St} {ta : TE} {tab : List (Str × Bool)}
theorem KC.uniq (k : KC K nm C) (k' : KC K nm C') : C = C' := by
  have := k.a.symm.trans k'.a
  cases this
  rfl
theorem KI.kit (T : KI K mg nm C) (h : PySem.W.subIn K (.ref C2) (.ref C) = some b) : PySem.W.kitOne K (.ref C2) (.ref C) = some b := by
  unfold PySem.W.kitOne
  by_cases e : (Value.ref C2 == Value.ref C) = true
  · rw [if_pos e]
    have e2 : C2 = C := Value.ref.inj (beq_iff_eq.mp e)
    subst e2
    exact T.self.symm.trans h
  · rw [if_neg e]
    have h2 : (PySem.W.clsIn K C).isSome = true := T.is
    show (if ((PySem.W.clsIn K C).isSome && PySem.W.typeIn K (.ref C) == some (.type "type")) = true then PySem.W.subIn K (.ref C2) (.ref C) else none) = some b
    rw [if_pos (by rw [h2, T.ty] <;> rfl)]
    exact h
theorem sub_bt (C : Addr) : ∀ s ∈ ["NoneType", "bool", "int", "str", "list", "tuple", "dict"], PySem.W.subIn K (.type s) (.ref C) = some false := by
  intro s hs
  simp only [List.mem_cons, List.not_mem_nil, or_false] at hs
  rcases hs with rfl | rfl | rfl | rfl | rfl | rfl | rfl <;> rfl
theorem KI.kitB (T : KI K mg nm C) {s : String} (hs : s ∈ ["NoneType", "bool", "int", "str", "list", "tuple", "dict"]) : PySem.W.kitOne K (.type s) (.ref C) = some false := by
  unfold PySem.W.kitOne
  rw [if_neg (by simp)]
  have h2 : (PySem.W.clsIn K C).isSome = true := T.is
  show (if ((PySem.W.clsIn K C).isSome && PySem.W.typeIn K (.ref C) == some (.type "type")) = true then PySem.W.subIn K (.type s) (.ref C) else none) = some false
  rw [if_pos (by rw [h2, T.ty] <;> rfl)]
  exact sub_bt C s hs
/-- isinstance(x, an own class): the classes that are known, and whether each is under it -/
def isCR (tab : List (Str × Bool)) (d : D) : Res Bool := match d with
  | .obj nm _ => (match tab.lookup nm with | some b => .ok b | none => .stuck)
  | _ => .ok false
theorem Post.isC {β : Type} {k : Bool → Res β} {P : β → Prop} {R : Err → Prop} (h : Post ((isCR tab d).bind k) P R) : ∃ b, isCR tab d = .ok b ∧ Post (k b) P R := by
  cases e : isCR tab d with
  | ok b => rw [e] at h; exact ⟨b, rfl, h⟩
  | err x =>
    cases d with
    | obj nm ds =>
      have e' : (match tab.lookup nm with | Option.some b => Res.ok b | Option.none => .stuck) = Res.err x := e
      cases q : tab.lookup nm <;> rw [q] at e' <;> exact nomatch e'
    | _ => exact nomatch e
  | stuck => rw [e] at h; exact h.elim
def TabOk (K : PySem.W.Frag) (C : Addr) : List (Str × Bool) → Prop
  | [] => True
  | (nm, b) :: r => (∃ C2, KC K nm C2 ∧ PySem.W.subIn K (.ref C2) (.ref C) = some b) ∧ TabOk K C r
theorem TabOk.get : ∀ {tab : List (Str × Bool)}, TabOk K C tab → tab.lookup nm = some b → ∃ C2, KC K nm C2 ∧ PySem.W.subIn K (.ref C2) (.ref C) = some b
  | [], _, e => nomatch e
  | (x, y) :: r, h, e => by
    have e' : (match nm == x with | true => some y | false => r.lookup nm) = some b := e
    by_cases q : (nm == x) = true
    · rw [q] at e'
      cases e'
      rw [beq_iff_eq.mp q]
      exact h.1
    · rw [Bool.eq_false_iff.mpr q] at e'
      exact TabOk.get h.2 e'
theorem h_isK (w : Ex B H) (r : Rep K B v d) (T : KI K mg nm C) (tb : TabOk K C tab) (e : isCR tab d = .ok b) (q : Q (.bl b) H) : rIsi K [v, .ref C] H Q := by
  by_cases hd : isObjD d = true
  · cases r with
    | @obj p C' dx nm' fs ds h k r =>
      have e' : (match tab.lookup nm' with | some b => Res.ok b | none => .stuck) = Res.ok b := e
      cases l : tab.lookup nm' with
      | none => rw [l] at e'; exact nomatch e'
      | some y =>
        rw [l] at e'
        cases e'
        obtain ⟨C2, k2, hs⟩ := tb.get l
        rw [k2.uniq k] at hs
        exact ⟨_, .ref C, .ref C', .ref C, b, rfl, .own C, k.tyx (w _ _ h), T.kit hs, q⟩
    | _ => exact nomatch hd
  · have hd := Bool.eq_false_iff.mpr hd
    have eb : b = false := by
      cases d with
      | obj nm ds => exact nomatch hd
      | _ => cases e; rfl
    subst eb
    exact ⟨v, .ref C, _, .ref C, false, rfl, .own C, r.ty w hd, T.kitB (tyD_in d hd), q⟩
theorem RepF.get : ∀ {fs : List (Str × V)} {ds : List (Str × D)}, RepF K B fs ds → ds.lookup f = some d → ∃ v, fs.lookup f = some v ∧ Rep K B v d
  | _, _, .nil, e => nomatch e
  | _, _, @RepF.cons _ _ k v d' vs ds h t, e => by
    have e' : (match f == k with | true => some d' | false => ds.lookup f) = some d := e
    show ∃ u, (match f == k with | true => some v | false => vs.lookup f) = some u ∧ _
    cases q : f == k with
    | true =>
      rw [q] at e'
      cases e'
      exact ⟨v, rfl, h⟩
    | false =>
      rw [q] at e'
      exact RepF.get t e'
theorem RepF.none : ∀ {fs : List (Str × V)} {ds : List (Str × D)}, RepF K B fs ds → ds.lookup f = Option.none → fs.lookup f = Option.none
  | _, _, .nil, _ => rfl
  | _, _, @RepF.cons _ _ k v d' vs ds h t, e => by
    have e' : (match f == k with | true => some d' | false => ds.lookup f) = Option.none := e
    show (match f == k with | true => some v | false => vs.lookup f) = Option.none
    cases q : f == k with
    | true => rw [q] at e'; exact nomatch e'
    | false =>
      rw [q] at e'
      exact RepF.none t e'
theorem Rep.ins (w : Ex B H) (r : Rep K B v (.obj nm ds)) (T : KC K nm C) : ∃ p dx fs, v = .ref p ∧ H p = some (.ins C dx fs) ∧ RepF K B fs ds := by
  cases r with
  | @obj p C' dx _ fs _ h k r =>
    have e := T.uniq k
    subst e
    exact ⟨p, dx, fs, rfl, w _ _ h, r⟩
/-! ### a field -/
def Fld (K : PySem.W.Frag) (f : Str) (x : V) (H : Hp) (Q : VK) : Prop := ∃ a C dx fs v, x = .ref a ∧ H a = some (.ins C dx fs) ∧ Cls K C ∧ NoAttr K C f ∧ fs.lookup f = some v ∧ Q v H
theorem h_fldE (h : ta σ H fun x H1 => Fld K f x H1 Q) : tFld K ta f σ H Q := h
theorem h_fld (w : Ex B H) (r : Rep K B v (.obj nm ds)) (T : KC K nm C) (n : NoAttr K C f) (e : ds.lookup f = some d) (h : ∀ u, Rep K B u d → Q u H) : Fld K f v H Q := by
  obtain ⟨p, dx, fs, rfl, hp, rf⟩ := r.ins w T
  obtain ⟨u, hu, ru⟩ := rf.get e
  exact ⟨p, C, dx, fs, u, rfl, hp, T.c, n, hu, h u ru⟩
/-! ### C(..) -/
/-- an __init__ that lays these fields, in this order -/
def LaysOk (K : PySem.W.Frag) (C : Addr) : List Str → Prop
  | [] => True
  | f :: r => NoAttr K C f ∧ LaysOk K C r
def spInit (K : PySem.W.Frag) (ns : List Str) : Sp := fun vs H Q _ => ∃ (C p dx : Addr) (us : List V), vs = .ref p :: us ∧ us.length = ns.length ∧ H p = some (.ins C dx []) ∧ Cls K C ∧ LaysOk K C ns ∧ Q .non (upd H p (.ins C dx (ns.zip us)))
theorem h_made (w : Ex B H) (hp : H p = none) (hx : H dx = none) (ne : dx ≠ p) (T : KC K nm C) (r : RepF K B fs ds) (h : ∀ B' H', Stp [] B H B' H' → Rep K B' (.ref p) (.obj nm ds) → Q (.ref p) H') : Q (.ref p) (upd (upd (upd H dx (.own p)) p (.ins C dx [])) p (.ins C dx fs)) := by
  rw [upd_upd]
  have s1 : Stp [] B H (upd B dx (.own p)) (upd H dx (.own p)) := Stp.new w hx
  have hp' : (upd H dx (.own p)) p = none := by rw [upd_ne ne.symm]; exact hp
  have s2 : Stp [] (upd B dx (.own p)) (upd H dx (.own p)) (upd (upd B dx (.own p)) p (.ins C dx fs)) (upd (upd H dx (.own p)) p (.ins C dx fs)) := Stp.new s1.ok hp'
  exact h _ _ (s1.trans s2) (.obj upd_same T (r.mono (s1.trans s2).ex))
theorem h_make {ns : List Str} {E : XK} {us : List V} (hl : us.length = ns.length) (w : Ex B H) (T : KC K nm C) (lo : LaysOk K C ns) (r : RepF K B (ns.zip us) ds) (h : ∀ p B' H', Stp [] B H B' H' → Rep K B' (.ref p) (.obj nm ds) → Q (.ref p) H') :
    ∀ x dx, H x = none → H dx = none → dx ≠ x → spInit K ns (.ref x :: us) (upd (upd H dx (.own x)) x (.ins C dx [])) (fun v H2 => v = .non ∧ Q (.ref x) H2) E := fun x dx hx hdx ne =>
  ⟨C, x, dx, us, rfl, hl, upd_same, T.c, lo, rfl, h_made w hx hdx ne T r fun B' H' s rr => h x B' H' s rr⟩
end
/-! ### o.m(..) of one of several classes -/
structure MAlt (P : Program) (wo : World) (K : PySem.W.Frag) (mg : Str → Option Value) (base : Heap) (CX : CXT) (k : Nat) (m : Str) (C : Addr) (sp : Sp) : Prop where
  ex : ∃ (f : Addr) (fd : FuncData) (ps : List Str), Cls K C ∧ Meth K C m f ∧ FnOk P wo K mg base CX k f fd ps sp ∧ L2.Binds K fd ps []
def tMethP (A : Addr → Sp → Prop) (m : Str) (E : L2.St → XK) (ta : TE) (t : TA) : TE := fun σ H Q => ta σ H fun x H1 => ∃ a C dx fs sp, x = .ref a ∧ H1 a = some (.ins C dx fs) ∧ A C sp ∧ fs.lookup m = none ∧ t σ H1 fun vs H2 => sp (x :: vs) H2 Q (E σ)
section
variable {X : Cx} {CX : CXT} {k : Nat} {E : L2.St → XK} {m : Str} {pos apos : Pos} {e o : Expr} {es : List Expr} {ta : TE} {t : TA} {A : Addr → Sp → Prop}
theorem pe_methP {pl : Sem Bool} (he : PE X o ta) (hA : ∀ C sp, A C sp → MAlt X.prog X.w X.K X.mg X.base CX k m C sp) (hr : Room k X.A) (hx : ∀ σ, PassesAt CX X σ (E σ)) (ha : PA X (e :: es) t)
    (hst : starEach (e :: es) X.env = (false, eval e X.env) :: starEach es X.env := by rfl) (hpl : (backTo pos (starEach es X.env)).any (·.1) = false := by rfl)
    (ht : eval (.Call (.Attribute o m apos) (e :: es) [] pos) X.env = (do
      let ov ← eval o X.env
      standAt apos.atName
      let (f, first) ← holding [ov] (getMethod ov m pl)
      callWith pos f first (backTo pos (starEach (e :: es) X.env)) (backToKw pos (keywordEach [] X.env))) := by rfl) :
    PE X (.Call (.Attribute o m apos) (e :: es) [] pos) (tMethP A m E ta t) := by
  refine ⟨fun pins s σ H Q I h => ?_⟩
  refine PySem.W.methodCall_KW (pl := pl) (thn (he.run pins s σ H _ I h) fun u s1 ⟨x, H1, I1, rx, a, C, dx, fs, sp, ex, ea, hAC, l, q⟩ => ?_) ht
  subst ex
  obtain rfl : u = Value.ref a := rx
  obtain ⟨f, fd, ps, c, hm, F, hb⟩ := (hA C sp hAC).ex
  refine getmeth_ok I1 ea c hm l ?_
  refine PySem.W.callWith_K (first := [.ref a]) (h₀ := X.base) I.ok.mod.kin hm.kp (thn (ha.run pos pins s1 σ H1 _ I1 q) fun us s2 ⟨vs, H2, I2, r, q2⟩ => ⟨I2.kIn, ?_⟩) hst hpl
  exact run_fnSD (us := .ref a :: us) (vs := .ref a :: vs) (dvs := []) (ds := []) F hr hb .nil (hx σ) I2 (.cons rfl r) (by rw [List.append_nil]; exact q2)
theorem pe_methP0 {pl : Sem Bool} (he : PE X o ta) (hA : ∀ C sp, A C sp → MAlt X.prog X.w X.K X.mg X.base CX k m C sp) (hr : Room k X.A) (hx : ∀ σ, PassesAt CX X σ (E σ))
    (ht : eval (.Call (.Attribute o m apos) [] [] pos) X.env = (do
      let ov ← eval o X.env
      standAt apos.atName
      let (f, first) ← holding [ov] (getMethod ov m pl)
      callWith pos f first (backTo pos (starEach [] X.env)) (backToKw pos (keywordEach [] X.env))) := by rfl) :
    PE X (.Call (.Attribute o m apos) [] [] pos) (tMethP A m E ta tNil) := by
  refine ⟨fun pins s σ H Q I h => ?_⟩
  refine PySem.W.methodCall_KW (pl := pl) (thn (he.run pins s σ H _ I h) fun u s1 ⟨x, H1, I1, rx, a, C, dx, fs, sp, ex, ea, hAC, l, q⟩ => ?_) ht
  subst ex
  obtain rfl : u = Value.ref a := rx
  obtain ⟨f, fd, ps, c, hm, F, hb⟩ := (hA C sp hAC).ex
  refine getmeth_ok I1 ea c hm l ?_
  exact PySem.W.callWith_K0 (first := [.ref a]) I1.kIn hm.kp (run_fnSD (us := [.ref a]) (vs := [.ref a]) (dvs := []) (ds := []) F hr hb .nil (hx σ) I1 (.cons rfl .nil) (by rw [List.append_nil]; exact q))
end
section
variable {K : PySem.W.Frag} {σ : L2.St} {H : Hp} {Q : VK} {A : Addr → Sp → Prop} {m : Str} {E : L2.St → XK} {ta : TE} {t : TA} {C : Addr} {sp : Sp} {dvs : List V} {E0 : XK}
theorem h_methE (h : ta σ H fun x H1 => ∃ a C dx fs sp, x = .ref a ∧ H1 a = some (.ins C dx fs) ∧ A C sp ∧ fs.lookup m = none ∧ t σ H1 fun vs H2 => sp (x :: vs) H2 Q (E σ)) : tMethP A m E ta t σ H Q := h
theorem h_makeE (h : t σ H fun vs H1 => ∀ x dx, H1 x = none → H1 dx = none → dx ≠ x → sp (.ref x :: (vs ++ dvs)) (upd (upd H1 dx (.own x)) x (.ins C dx [])) (fun v H2 => v = .non ∧ Q (.ref x) H2) E0) : tMake C sp dvs E0 t σ H Q := h
theorem lk0 {α : Type} {f : Str} {d : α} {r : List (Str × α)} : List.lookup f ((f, d) :: r) = some d := by
  show (match f == f with | true => some d | false => r.lookup f) = some d
  rw [beq_self_eq_true]
theorem lkS {α : Type} {f g : Str} {d e : α} {r : List (Str × α)} (h : (f == g) = false) (t : List.lookup f r = some d) : List.lookup f ((g, e) :: r) = some d := by
  show (match f == g with | true => some e | false => r.lookup f) = some d
  rw [h]
  exact t
theorem lkN {α : Type} {f g : Str} {e : α} {r : List (Str × α)} (h : (f == g) = false) (t : List.lookup f r = none) : List.lookup f ((g, e) :: r) = none := by
  show (match f == g with | true => some e | false => r.lookup f) = none
  rw [h]
  exact t
theorem lkE {α : Type} {f : Str} : List.lookup f ([] : List (Str × α)) = none := rfl
theorem putS {f g : Str} {v u : V} {r q : List (Str × V)} (h : ¬ g = f) (e : putF f v r = q) : putF f v ((g, u) :: r) = (g, u) :: q := by
  show (if g = f then (g, v) :: r else (g, u) :: putF f v r) = _
  rw [if_neg h, e]
theorem putE {f : Str} {v : V} : putF f v [] = [(f, v)] := rfl
end
/-! ### C(.., k = v) -/
def tMakeB (C : Addr) (sp : Sp) (gV : List V → List V → List V) (E : XK) (t tk : TA) : TE := fun σ H Q => t σ H fun vs H1 => tk σ H1 fun zs H2 =>
  ∀ x dx, H2 x = none → H2 dx = none → dx ≠ x → sp (gV (.ref x :: vs) zs) (upd (upd H2 dx (.own x)) x (.ins C dx [])) (fun v H3 => v = .non ∧ Q (.ref x) H3) E
section
variable {X : Cx} {CX : CXT} {k : Nat} {f C : Addr} {fd : FuncData} {ps ks : List Str} {sp : Sp} {E : XK} {x : Str} {p pos : Pos} {e : Expr} {es : List Expr} {kws : List Keyword} {t tk : TA} {g : List Value → List Value → List Value} {gV : List V → List V → List V}
theorem run_makeB {pins : List (Addr × Obj)} {σ : L2.St} {H : Hp} {s : Shared} {Q : VK} {us ws : List Value} {vs zs : List V} (M : Mk X.K C f) (F : FnOk X.prog X.w X.K X.mg X.base CX k f fd ps sp) (hr : Room (k + 1) X.A) (hb : KBinds X.K fd ps ks g gV)
    (hx : Passes CX X E) (I : Inv X pins σ H s) (r : Vals vs us) (rz : Vals zs ws)
    (h : ∀ x dx, H x = none → H dx = none → dx ≠ x → sp (gV (.ref x :: vs) zs) (upd (upd H dx (.own x)) x (.ins C dx [])) (fun v H2 => v = .non ∧ Q (.ref x) H2) E) :
    wpAny (model X.prog X.w) X.A (call (.ref C) us (ks.zip ws)) (EP X pins σ Q) X.xe s := by
  have hq := h (s.heap.objs.size + 1) s.heap.objs.size (I.hok.fresh (Nat.le_succ _)) (I.hok.fresh (Nat.le_refl _)) (Nat.ne_of_lt (Nat.lt_succ_self _))
  have I2 := Inv.made (C := C) I
  have r1 : Vals (V.ref (s.heap.objs.size + 1) :: vs) (Value.ref (s.heap.objs.size + 1) :: us) := .cons rfl r
  have r2 := hb.rel r1 rz
  have hl : (g (Value.ref (s.heap.objs.size + 1) :: us) ws).length = ps.length := by rw [← r2.length]; exact F.len _ _ _ _ hq
  refine wpAny_call (make_map (f := f) I.kIn M.makes M.init (beq_iff_eq.mp M.fn) (codeAny_mono (F.run _ X.stack _ _ ⟨Value.ref (s.heap.objs.size + 1) :: us, ks.zip ws⟩ (g (Value.ref (s.heap.objs.size + 1) :: us) ws) _ _ E (hr.make C us (ks.zip ws))
    (I2.env0.make C us (ks.zip ws)) (hb.to _ (Value.ref (s.heap.objs.size + 1) :: us) ws I2.kIn hl) r2 hq) fun r s' hq' => ?_))
  cases r with
  | error e => exact hx pins σ _ _ e s' I2 hq'
  | ok fl =>
    cases fl with
    | ret u =>
      obtain ⟨v, H', I3, rv, ev, q3⟩ := I2.after hq'
      subst ev
      exact ⟨rv, ⟨V.ref (s.heap.objs.size + 1), H', I3, rfl, q3⟩⟩
    | next => exact False.elim hq'
    | brk => exact False.elim hq'
    | cont => exact False.elim hq'
theorem pe_makeB (M : Mk X.K C f) (F : FnOk X.prog X.w X.K X.mg X.base CX k f fd ps sp) (hr : Room (k + 1) X.A) (hg : Gl X x) (hm : X.mg x = some (.ref C)) (hb : KBinds X.K fd ps ks g gV) (hx : Passes CX X E)
    (ha : PA X (e :: es) t) (hkw : PK X kws tk) (hall : (backToKw pos (keywordEach kws X.env)).all (·.1.isSome) = true := by rfl) (hks : (backToKw pos (keywordEach kws X.env)).filterMap (·.1) = ks := by rfl)
    (hdb : (x == ("__debug__" : Str)) = false := by decide) (he : starEach (e :: es) X.env = (false, eval e X.env) :: starEach es X.env := by rfl)
    (hpl : ((backTo pos (starEach (e :: es) X.env)).any (·.1) || (backToKw pos (keywordEach kws X.env)).any (·.1.isNone)) = false := by rfl) :
    PE X (.Call (.Name x p) (e :: es) kws pos) (tMakeB C sp gV E t tk) := by
  refine ⟨fun pins s σ H Q I h => ?_⟩
  refine wpAny_Call_Name_kw (ld_glob I hg hm ?_ hdb)
  refine PySem.W.callWith_KW (h₀ := X.base) I.ok.mod.kin M.kp hall (thn (ha.run pos pins s σ H _ I h) fun us s1 ⟨vs, H1, I1, r, q⟩ => ?_) hpl he
  refine thn (hkw.run pos pins s1 σ H1 _ I1 q) fun ws s2 ⟨zs, H2, I2, rz, q2⟩ => ⟨I2.kIn, ?_⟩
  rw [hks]
  exact run_makeB M F hr hb hx I2 r rz q2
theorem pe_makeB0 (M : Mk X.K C f) (F : FnOk X.prog X.w X.K X.mg X.base CX k f fd ps sp) (hr : Room (k + 1) X.A) (hg : Gl X x) (hm : X.mg x = some (.ref C)) (hb : KBinds X.K fd ps ks g gV) (hx : Passes CX X E) (hkw : PK X kws tk)
    (hall : (backToKw pos (keywordEach kws X.env)).all (·.1.isSome) = true := by rfl) (hks : (backToKw pos (keywordEach kws X.env)).filterMap (·.1) = ks := by rfl) (hdb : (x == ("__debug__" : Str)) = false := by decide)
    (hpl : ((backTo pos (starEach [] X.env)).any (·.1) || (backToKw pos (keywordEach kws X.env)).any (·.1.isNone)) = false := by rfl) :
    PE X (.Call (.Name x p) [] kws pos) (tMakeB C sp gV E tNil tk) := by
  refine ⟨fun pins s σ H Q I h => ?_⟩
  refine wpAny_Call_Name_kw (ld_glob I hg hm ?_ hdb)
  refine PySem.W.callWith_KW0 (h₀ := X.base) I.ok.mod.kin M.kp hall ?_ hpl
  refine thn (hkw.run pos pins s σ H _ I h) fun ws s2 ⟨zs, H2, I2, rz, q2⟩ => ⟨I2.kIn, ?_⟩
  rw [hks]
  exact run_makeB (us := []) (vs := []) M F hr hb hx I2 .nil rz q2
theorem h_makeBE {σ : L2.St} {H : Hp} {Q : VK} (h : t σ H fun vs H1 => tk σ H1 fun zs H2 => ∀ x dx, H2 x = none → H2 dx = none → dx ≠ x → sp (gV (.ref x :: vs) zs) (upd (upd H2 dx (.own x)) x (.ins C dx [])) (fun v H3 => v = .non ∧ Q (.ref x) H3) E) : tMakeB C sp gV E t tk σ H Q := h
end
section
variable {K : PySem.W.Frag} {B H : Hp} {σ : L2.St} {Q : VK} {tk tv : TE} {v : V} {d : D} {x : Str}
theorem h_disp1S (hk : ∀ (H' : Hp) (Q : VK), Q (.str x) H' → tk σ H' Q) (hv : ∀ (H' : Hp) (Q : VK), Q v H' → tv σ H' Q) (w : Ex B H) (rv : Rep K B v d)
    (h : ∀ p B' H', Stp [] B H B' H' → Rep K B' (.ref p) (.dic [(.inr x, d)]) → Q (.ref p) H') : tDisp [(tk, tv)] σ H Q := fun p hp => by
  show tk σ (upd H p (.dK [])) _
  refine hk _ _ (hv _ _ ⟨upd_same, [(.inr x, v)], rfl, (by show 1 ≤ 15; decide), ?_⟩)
  rw [L2.upd_upd]
  have hb := w.none hp
  exact h p _ _ (Stp.new w hp) (.dic upd_same (.cons (rv.mono (Ex.new hb)) .nil))
end
/-! ### C.m(..), a def of the class C -/
def tClsF (C : Addr) (sp : Sp) (dvs : List V) (E : XK) (ta : TE) (t : TA) : TE := fun σ H Q => ta σ H fun x H1 => x = .ref C ∧ t σ H1 fun vs H2 => sp (vs ++ dvs) H2 Q E
section
variable {X : Cx} {CX : CXT} {k : Nat} {E : XK} {m : Str} {pos apos : Pos} {e o : Expr} {es : List Expr} {ta : TE} {t : TA} {C g : Addr} {mc : Value} {fd : FuncData} {ps : List Str} {sp : Sp} {dvs : List V} {ds : List Value}
theorem pe_clsf {pl : Sem Bool} (he : PE X o ta) (r : ClX.CRead X.K C mc) (c : ClX.CVal X.K C mc m (.ref g) (.ref g)) (F : FnOk X.prog X.w X.K X.mg X.base CX k g fd ps sp) (hk : PySem.W.keepIn X.K (.ref g) = true) (hr : Room k X.A)
    (hb : L2.Binds X.K fd ps ds) (hd : Vals dvs ds) (hx : Passes CX X E) (ha : PA X (e :: es) t)
    (hst : starEach (e :: es) X.env = (false, eval e X.env) :: starEach es X.env := by rfl) (hpl : (backTo pos (starEach es X.env)).any (·.1) = false := by rfl)
    (ht : eval (.Call (.Attribute o m apos) (e :: es) [] pos) X.env = (do
      let ov ← eval o X.env
      standAt apos.atName
      let (f, first) ← holding [ov] (getMethod ov m pl)
      callWith pos f first (backTo pos (starEach (e :: es) X.env)) (backToKw pos (keywordEach [] X.env))) := by rfl) :
    PE X (.Call (.Attribute o m apos) (e :: es) [] pos) (tClsF C sp dvs E ta t) := by
  refine ⟨fun pins s σ H Q I h => ?_⟩
  refine PySem.W.methodCall_KW (pl := pl) (thn (he.run pins s σ H _ I h) fun u s1 ⟨x, H1, I1, rx, ex, q⟩ => ?_) ht
  subst ex
  obtain rfl : u = Value.ref C := rx
  refine PySem.W.method_cls I1.kIn r.ga (ClX.getcval_ok I1 r c fun s2 I2 => ?_)
  refine PySem.W.callWith_K (first := []) (h₀ := X.base) I2.ok.mod.kin hk (thn (ha.run pos pins s2 σ H1 _ I2 q) fun us s3 ⟨vs, H2, I3, rv, q2⟩ => ⟨I3.kIn, ?_⟩) hst hpl
  exact run_fn F hr hb hd hx I3 rv q2
end
/-! # min of two -/
def minI (i j : Int) : Int := if j < i then j else i
def rMinY : List V → Hp → VK → Prop := fun xs H Q => ∃ i j, xs = [.int i, .int j] ∧ Q (.int (minI i j)) H
theorem cr_minY {X : Cx} (hc : X.calm = true) : CallR X (.builtin "min") rMinY := call_min2 hc
theorem h_min {i j : Int} {H : Hp} {Q : VK} (h : Q (.int (minI i j)) H) : rMinY [.int i, .int j] H Q := ⟨i, j, rfl, h⟩
/-! # a comprehension over a tuple -/
section
variable {K : PySem.W.Frag} {B H : Hp} {σ : L2.St} {Q : VK} {p : Addr} {xs : List V} {g : TG} {tt : TT} {te : TE} {α β S R' : Type} {P : β → Prop} {R : Err → Prop}
def LcU (K : PySem.W.Frag) (v : V) (g : TG) (tt : TT) (te : TE) (vs : List Nat) (σ : L2.St) (H : Hp) (Q : VK) : Prop := tLc (iTup K (tC v)) g tt te vs σ H Q
theorem h_lcUE {vs : List Nat} {tl : TE} (h : tl σ H fun x H1 => LcU K x g tt te vs σ H1 Q) : tLc (iTup K tl) g tt te vs σ H Q := h
theorem h_lcU [Enc α] {l : List α} {s0 : S} {f : α → S → Res (Option R' × S)} {k : List R' × S → Res β} {vs : List Nat} (hP : Post ((compR l s0 f).bind k) P R) (hs : SqT K H p xs) (hr : RepL K B xs (l.map enc))
    (J : Addr → List R' → S → Hp → Prop) (h0 : ∀ Dl, H Dl = none → J Dl [] s0 (upd H Dl (.lst []))) (hl : ∀ Dl acc s H', J Dl acc s H' → SqT K H' p xs)
    (hb : ∀ (Dl : Addr) (N : Hp → Prop) (T : Option R' × S → Prop) (x : α) v acc s H', J Dl acc s H' → Rep K B v (enc x) → acc.length < sizeLine → (∀ b s' H2, J Dl (acc ++ [b]) s' H2 → T (some b, s') → N H2) → (∀ s' H2, J Dl acc s' H2 → T (none, s') → N H2) → Post (f x s) T R →
      g v (wipe σ vs) H' (LcT σ vs tt te Dl N))
    (hd : ∀ Dl acc s H', J Dl acc s H' → Post (k (acc, s)) P R → Q (.ref Dl) H') : LcU K (.ref p) g tt te vs σ H Q := by
  refine ⟨p, rfl, ⟨xs, hs⟩, fun Dl hD => ?_⟩
  unfold compR at hP
  have hz : l.length ≤ 1000000 := by
    by_cases c : l.length ≤ 1000000
    · exact c
    · unfold guardR at hP; rw [if_neg c] at hP; exact hP.elim
  unfold guardR at hP
  rw [if_pos hz] at hP
  refine lc_tup (K := K) (a := p) (xs := xs) (fun i H' => ∃ acc s, J Dl acc s H' ∧ acc.length ≤ i ∧ Post ((compL (l.drop i) s f).bind fun q => k (acc ++ q.1, q.2)) P R) ⟨[], s0, h0 Dl hD, Nat.le_refl _, hP⟩ (fun i H' _ ⟨acc, s, j, _⟩ => hl Dl acc s H' j) ?_ ?_
  · rintro i y H' hi ⟨acc, s, j, hn, q⟩
    have h1 := (List.getElem?_eq_some_iff.mp hi).1
    rw [hr.length, List.length_map] at h1
    obtain ⟨x, hx⟩ : ∃ x, l[i]? = some x := ⟨l[i], List.getElem?_eq_getElem h1⟩
    obtain ⟨u, hu, ru⟩ := hr.get (i := i) (d := enc x) (by rw [List.getElem?_map, hx]; rfl)
    rw [hi] at hu; cases hu
    exact hb Dl _ _ x y acc s H' j ru (Nat.lt_of_le_of_lt (Nat.le_trans hn (Nat.le_trans (Nat.le_of_lt h1) hz)) (by decide)) (fun b s' H2 j2 t2 => ⟨acc ++ [b], s', j2, by rw [List.length_append]; exact Nat.succ_le_succ hn, t2⟩) (fun s' H2 j2 t2 => ⟨acc, s', j2, Nat.le_succ_of_le hn, t2⟩) (q.compS hx)
  · rintro H' ⟨acc, s, j, _, q⟩
    rw [hr.length, List.length_map, List.drop_eq_nil_of_le (Nat.le_refl _)] at q
    have q2 : Post (k (acc ++ [], s)) P R := q
    rw [List.append_nil] at q2
    exact hd Dl acc s H' j q2
end
end Y

set_option Elab.async false
set_option linter.all false
set_option maxRecDepth 100000
set_option maxHeartbeats 4000000
namespace Y
open PySem PySem.Spec PyProof.Rows
open L2
/-! # o.m(k = v) of one of several classes -/
structure MAltK (P : Program) (wo : World) (K : PySem.W.Frag) (mg : Str → Option Value) (base : Heap) (CX : CXT) (k : Nat) (m : Str) (ks : List Str) (gV : List V → List V → List V) (C : Addr) (sp : Sp) : Prop where
  ex : ∃ (f : Addr) (fd : FuncData) (ps : List Str) (g : List Value → List Value → List Value), Cls K C ∧ Meth K C m f ∧ FnOk P wo K mg base CX k f fd ps sp ∧ KBinds K fd ps ks g gV
def tMethK (A : Addr → Sp → Prop) (m : Str) (gV : List V → List V → List V) (E : L2.St → XK) (ta : TE) (tk : TA) : TE := fun σ H Q => ta σ H fun x H1 => ∃ a C dx fs sp, x = .ref a ∧ H1 a = some (.ins C dx fs) ∧ A C sp ∧ fs.lookup m = none ∧ tk σ H1 fun zs H2 => sp (gV [x] zs) H2 Q (E σ)
section
variable {X : Cx} {CX : CXT} {k : Nat} {E : L2.St → XK} {m : Str} {ks : List Str} {pos apos : Pos} {o : Expr} {kws : List Keyword} {ta : TE} {tk : TA} {A : Addr → Sp → Prop} {gV : List V → List V → List V} {f : Addr} {fd : FuncData} {ps : List Str} {sp : Sp} {g : List Value → List Value → List Value}
theorem run_fnkS {pins : List (Addr × Obj)} {σ : L2.St} {H : Hp} {s : Shared} {Q : VK} {us ws : List Value} {vs zs : List V} (F : FnOk X.prog X.w X.K X.mg X.base CX k f fd ps sp) (hr : Room k X.A) (hb : KBinds X.K fd ps ks g gV) (hx : PassesAt CX X σ (E σ))
    (I : Inv X pins σ H s) (r : Vals vs us) (rz : Vals zs ws) (h : sp (gV vs zs) H Q (E σ)) : wpAny (model X.prog X.w) X.A (call (.ref f) us (ks.zip ws)) (EP X pins σ Q) X.xe s := by
  have r2 := hb.rel r rz
  have hl : (g us ws).length = ps.length := by rw [← r2.length]; exact F.len _ _ _ _ h
  refine wpAny_call (codeAny_mono (F.run X.A X.stack s H ⟨us, ks.zip ws⟩ (g us ws) (gV vs zs) Q (E σ) hr I.env0 (hb.to s us ws I.kIn hl) r2 h) fun r s' hq => ?_)
  cases r with
  | error e => exact hx pins H s e s' I hq
  | ok fl =>
    cases fl with
    | ret u => exact I.after hq
    | next => exact False.elim hq
    | brk => exact False.elim hq
    | cont => exact False.elim hq
theorem pe_methK0 {pl : Sem Bool} (he : PE X o ta) (hA : ∀ C sp, A C sp → MAltK X.prog X.w X.K X.mg X.base CX k m ks gV C sp) (hr : Room k X.A) (hx : ∀ σ, PassesAt CX X σ (E σ)) (hkw : PK X kws tk)
    (hall : (backToKw pos (keywordEach kws X.env)).all (·.1.isSome) = true := by rfl) (hks : (backToKw pos (keywordEach kws X.env)).filterMap (·.1) = ks := by rfl)
    (hpl : ((backTo pos (starEach [] X.env)).any (·.1) || (backToKw pos (keywordEach kws X.env)).any (·.1.isNone)) = false := by rfl)
    (ht : eval (.Call (.Attribute o m apos) [] kws pos) X.env = (do
      let ov ← eval o X.env
      standAt apos.atName
      let (f, first) ← holding [ov] (getMethod ov m pl)
      callWith pos f first (backTo pos (starEach [] X.env)) (backToKw pos (keywordEach kws X.env))) := by rfl) :
    PE X (.Call (.Attribute o m apos) [] kws pos) (tMethK A m gV E ta tk) := by
  refine ⟨fun pins s σ H Q I h => ?_⟩
  refine PySem.W.methodCall_KW (pl := pl) (thn (he.run pins s σ H _ I h) fun u s1 ⟨x, H1, I1, rx, a, C, dx, fs, sp, ex, ea, hAC, l, q⟩ => ?_) ht
  subst ex
  obtain rfl : u = Value.ref a := rx
  obtain ⟨f, fd, ps, g, c, hm, F, hb⟩ := (hA C sp hAC).ex
  refine getmeth_ok I1 ea c hm l ?_
  refine PySem.W.callWith_KW0 (first := [.ref a]) (h₀ := X.base) I1.ok.mod.kin hm.kp hall ?_ hpl
  refine thn (hkw.run pos pins s1 σ H1 _ I1 q) fun ws s2 ⟨zs, H2, I2, rz, q2⟩ => ⟨I2.kIn, ?_⟩
  rw [hks]
  exact run_fnkS (us := [.ref a]) (vs := [.ref a]) F hr hb (hx σ) I2 (.cons rfl .nil) rz q2
theorem h_methKE {σ : L2.St} {H : Hp} {Q : VK} (h : ta σ H fun x H1 => ∃ a C dx fs sp, x = .ref a ∧ H1 a = some (.ins C dx fs) ∧ A C sp ∧ fs.lookup m = none ∧ tk σ H1 fun zs H2 => sp (gV [x] zs) H2 Q (E σ)) : tMethK A m gV E ta tk σ H Q := h
end
/-! # tuples: parts and sums -/
section
variable {K : PySem.W.Frag} {B H : Hp} {Q : VK} {p q : Addr} {lo hi : Option Int} {l l2 : List D}
theorem h_slA (w : Ex B H) (r : Rep K B (.ref p) (.tup (l.map Enc.enc))) (h : ∀ u B' H', Stp [] B H B' H' → Rep K B' u (.tup ((cutL l lo hi).map Enc.enc)) → Q u H') : rSlA K (.ref p) lo hi H Q := by
  obtain ⟨p', xs, e, s, rr⟩ := r.st w
  cases e
  refine ⟨p, xs, rfl, s, fun c => ?_, fun _ p2 hp2 => ?_⟩
  · have e : cutL l lo hi = l := by
      have hl : xs.length = l.length := by rw [rr.length, List.length_map]
      rw [hl] at c
      unfold cutL
      rw [c.1, c.2]
      simp
    refine h _ _ _ (Stp.refl w) ?_
    rw [e]
    exact r
  · exact h _ _ _ (Stp.new w hp2) (.tup (SqT.of upd_same) ((rr.cut lo hi).mono (Ex.new (w.none hp2))))
theorem h_catA (w : Ex B H) (r1 : Rep K B (.ref p) (.tup (l.map Enc.enc))) (r2 : Rep K B (.ref q) (.tup (l2.map Enc.enc))) (hz : l.length + l2.length ≤ 1000000) (h : ∀ u B' H', Stp [] B H B' H' → Rep K B' u (.tup ((l ++ l2).map Enc.enc)) → Q u H') : rCatA K (.ref p) (.ref q) H Q := by
  obtain ⟨p', xs, e, s1, rr1⟩ := r1.st w
  cases e
  obtain ⟨q', ys, e, s2, rr2⟩ := r2.st w
  cases e
  have hl : xs.length = l.length := by rw [rr1.length, List.length_map]
  have hl2 : ys.length = l2.length := by rw [rr2.length, List.length_map]
  refine ⟨p, q, xs, ys, rfl, rfl, s1, s2, by rw [hl, hl2]; exact Nat.le_trans hz (by decide), fun e => ?_, fun _ e => ?_, fun _ _ p2 hp2 => ?_⟩
  · subst e
    have : l = [] := List.eq_nil_of_length_eq_zero hl.symm
    subst this
    exact h _ _ _ (Stp.refl w) r2
  · subst e
    have : l2 = [] := List.eq_nil_of_length_eq_zero hl2.symm
    subst this
    refine h _ _ _ (Stp.refl w) ?_
    rw [List.append_nil]
    exact r1
  · exact h _ _ _ (Stp.new w hp2) (.tup (SqT.of upd_same) ((rr1.cat rr2).mono (Ex.new (w.none hp2))))
end
end Y

set_option Elab.async false
set_option linter.all false
set_option maxRecDepth 100000
set_option maxHeartbeats 4000000
/-! # max(xs, default = d): the loop with its keywords -/
namespace MxD
open PySem
section
variable {prog : Program} {w : World} {A : Around} {R : Result → Shared → Prop} {I : Addr} {fp wr : List Addr} {n : Nat} {P : Nat → Value → Prop} {St : Nat → Heap → Prop} {kw : List (Str × Value)}
theorem nm : (toString "max" ++ toString ".loop" : String) = "max.loop" := by decide
/-- behind the first item -/
theorem loop (W : Walks prog w A.in1 I fp wr n P St) (bt : Nat → Nat → Bool) (hcmp : CmpOf prog w A.in1 .Gt P bt) (S : Addr) (off : S ∉ fp) (k : Nat) : ∀ (j : Nat) (s : Shared) (best : Value) (c : Nat), n = j + 1 + k → St (j + 1) s.heap → P (argBest bt j) best →
    s.heap.get? S = some { cls := .type "list", dict := none, data := .seq #[best, best] c, slots := #[] } →
    (∀ v h' tk, P (argBest bt (n - 1)) v → (∀ b o, b ∉ wr → b ≠ S → s.heap.get? b = some o → h'.get? b = some o) → R (.ok (.ret v)) { s with heap := h', toks := tk }) → codeAny (model prog w) A (.builtin "max.loop" ⟨[.ref I, .none, .ref S], kw⟩) R s := by
  have offw : S ∉ wr := fun h => off (W.sub _ h)
  induction k with
  | zero =>
    intro j s best c en st pb hS fin
    refine codeAny_builtin F.entry_max_loop ?_
    rw [Around.under_plainId F.plain_max_loop _]
    show wpAny (model prog w) A.in1 (seqItems? (.ref S) >>= _) _ _ s
    refine wpAny_bind (wpAny_seqItems hS rfl ?_)
    show wpAny (model prog w) A.in1 (tryCatch (pyNext (.ref I)) _ >>= _) _ _ s
    refine wpAny_bind (wpAny_tryCatch (W.done s _ _ (en ▸ st) fun h' tk kept => ?_))
    show wpAny (model prog w) A.in1 (updateSeq S (fun _ => #[]) >>= _) _ _ _
    refine wpAny_bind (wpAny_updateSeq (kept S _ offw hS) rfl (wpAny_bind (wpAny_letGo (wpAny_pure ?_))))
    exact fin best _ tk (by rw [en]; exact pb) fun b o h1 h2 e => (Heap.get?_update_other _ _ h2.symm).trans (kept b o h1 e)
  | succ k ih =>
    intro j s best c en st pb hS fin
    refine codeAny_builtin F.entry_max_loop ?_
    rw [Around.under_plainId F.plain_max_loop _]
    show wpAny (model prog w) A.in1 (seqItems? (.ref S) >>= _) _ _ s
    refine wpAny_bind (wpAny_seqItems hS rfl ?_)
    show wpAny (model prog w) A.in1 (tryCatch (pyNext (.ref I)) _ >>= _) _ _ s
    refine wpAny_bind (wpAny_tryCatch (W.item (j + 1) s _ _ (by omega) st fun v h' tk pv st' kept => ?_))
    have hS' := kept S _ offw hS
    show wpAny (model prog w) A.in1 (tryCatch (holding [v, v] (richCompare .Gt v best >>= _)) _ >>= _) _ _ _
    refine wpAny_bind (wpAny_tryCatch (wpAny_holding (wpAny_bind (hcmp (j + 1) (argBest bt j) v best _ _ _ pv pb ?_))))
    refine wpAny_bind (wpAny_holding (wpAny_truthy_bool (wpAny_bind (wpAny_letGo (wpAny_pure ?_)))))
    by_cases hb : bt (j + 1) (argBest bt j) = true
    · rw [hb]
      simp only [if_true]
      refine wpAny_bind (wpAny_updateSeq hS' rfl (wpAny_bind (wpAny_letGo ?_)))
      rw [nm]
      refine wpAny_pure ⟨plainId_quiet F.plain_max_loop _, ih (j + 1) _ v _ (by omega) (W.frame _ _ _ st' fun b hf o e => (Heap.get?_update_other _ _ (fun q : S = b => off (by rw [q]; exact hf))).trans e) (by simp only [argBest, hb, if_true]; exact pv) (Heap.get?_update_self _ hS' rfl) fun v2 h2 tk2 p2 k2 => ?_⟩
      exact fin v2 h2 tk2 p2 fun b o h1 hn e => k2 b o h1 hn ((Heap.get?_update_other _ _ hn.symm).trans (kept b o h1 e))
    · have hb := Bool.eq_false_iff.mpr hb
      rw [hb]
      simp only [Bool.false_eq_true, if_false]
      refine wpAny_bind (wpAny_letGo ?_)
      rw [nm]
      refine wpAny_pure ⟨plainId_quiet F.plain_max_loop _, ih (j + 1) _ best c (by omega) st' (by simp only [argBest, hb, Bool.false_eq_true, if_false]; exact pb) hS' fun v2 h2 tk2 p2 k2 => ?_⟩
      exact fin v2 h2 tk2 p2 fun b o h1 hn e => k2 b o h1 hn (kept b o h1 e)
theorem first (W : Walks prog w A.in1 I fp wr n P St) (bt : Nat → Nat → Bool) (hcmp : CmpOf prog w A.in1 .Gt P bt) (S : Addr) (off : S ∉ fp) (hn : 0 < n) {s : Shared} {c : Nat} (st : St 0 s.heap)
    (hS : s.heap.get? S = some { cls := .type "list", dict := none, data := .seq #[] c, slots := #[] })
    (fin : ∀ v h' tk, P (argBest bt (n - 1)) v → (∀ b o, b ∉ wr → b ≠ S → s.heap.get? b = some o → h'.get? b = some o) → R (.ok (.ret v)) { s with heap := h', toks := tk }) : codeAny (model prog w) A (.builtin "max.loop" ⟨[.ref I, .none, .ref S], kw⟩) R s := by
  have offw : S ∉ wr := fun h => off (W.sub _ h)
  refine codeAny_builtin F.entry_max_loop ?_
  rw [Around.under_plainId F.plain_max_loop _]
  show wpAny (model prog w) A.in1 (seqItems? (.ref S) >>= _) _ _ s
  refine wpAny_bind (wpAny_seqItems hS rfl ?_)
  show wpAny (model prog w) A.in1 (tryCatch (pyNext (.ref I)) _ >>= _) _ _ s
  refine wpAny_bind (wpAny_tryCatch (W.item 0 s _ _ hn st fun v h' tk pv st' kept => ?_))
  have hS' := kept S _ offw hS
  show wpAny (model prog w) A.in1 (updateSeq S (fun _ => #[v, v]) >>= _) _ _ _
  refine wpAny_bind (wpAny_updateSeq hS' rfl ?_)
  rw [nm]
  refine wpAny_pure ⟨plainId_quiet F.plain_max_loop _, loop W bt hcmp S off (n - 1) 0 _ v _ (by omega) (W.frame _ _ _ st' fun b hf o e => (Heap.get?_update_other _ _ (fun q : S = b => off (by rw [q]; exact hf))).trans e) pv (Heap.get?_update_self _ hS' rfl) fun v2 h2 tk2 p2 k2 => ?_⟩
  exact fin v2 h2 tk2 p2 fun b o h1 hn e => k2 b o h1 hn ((Heap.get?_update_other _ _ hn.symm).trans (kept b o h1 e))
/-- no item: the default -/
theorem none_ (W : Walks prog w A.in1 I fp wr n P St) (n0 : n = 0) (S : Addr) (off : S ∉ fp) {s : Shared} {c : Nat} {d : Value} {x : Str} (st : St 0 s.heap)
    (hS : s.heap.get? S = some { cls := .type "list", dict := none, data := .seq #[] c, slots := #[] })
    (fin : ∀ h' tk, (∀ b o, b ∉ wr → b ≠ S → s.heap.get? b = some o → h'.get? b = some o) → R (.ok (.ret d)) { s with heap := h', toks := tk }) : codeAny (model prog w) A (.builtin "max.loop" ⟨[.ref I, .none, .ref S], [(x, d)]⟩) R s := by
  refine codeAny_builtin F.entry_max_loop ?_
  rw [Around.under_plainId F.plain_max_loop _]
  show wpAny (model prog w) A.in1 (seqItems? (.ref S) >>= _) _ _ s
  refine wpAny_bind (wpAny_seqItems hS rfl ?_)
  show wpAny (model prog w) A.in1 (tryCatch (pyNext (.ref I)) _ >>= _) _ _ s
  refine wpAny_bind (wpAny_tryCatch (W.done s _ _ (n0.symm ▸ st) fun h' tk kept => ?_))
  exact wpAny_bind (wpAny_rule (wpAny_pure (fin h' tk fun b o h1 _ e => kept b o h1 e)))
end
theorem args_max_d (a d : Value) : argsOk "max" ⟨[a], [(Str.ofString "default", d)]⟩ := by unfold argsOk; kernel_rfl
theorem call_tree_kw {prog : Program} {w : World} {A : Around} {s : Shared} {E : Value → Shared → Prop} {id : String} {b : Builtin} {args : List Value} {kw : List (Str × Value)} {Q : Value → Shared → Prop} (hk : builtinKind id = none) (hp : plainId id = true) (hb : entryFor table id = some b) (ha : argsOk id ⟨args, kw⟩)
    (hc : wpAny (model prog w) A.in1 (b ⟨args, kw⟩) (fun fin s' => match fin with
      | .done f => (match (Except.ok f : Result) with | .ok (.ret v) => Q v s' | .ok _ => False | .error e => E e s')
      | .again c => c.quiet = true ∧ codeAny (model prog w) A c (fun r s' => match r with | .ok (.ret v) => Q v s' | .ok _ => False | .error e => E e s') s') E s) : wpAny (model prog w) A (call (.builtin id) args kw) Q E s := by
  refine wpAny_call (codeAny_call_builtin hp hb ?_)
  simp only [checkBuiltinCall, hk]
  cases hsig : Manifest.signature? id with
  | none => exact wpAny_pure hc
  | some sig =>
    simp only [argsOk, hsig] at ha
    have h2 : Bind.checkArgs id sig ⟨args, kw⟩ = pure () := ha
    show wpAny (model prog w) A.in1 (Bind.checkArgs id sig ⟨args, kw⟩) _ _ s
    rw [h2]
    exact wpAny_pure hc
open PyProof.Rows L2 in
theorem raw {prog : Program} {w : World} {A : Around} {s : Shared} {E Q : Value → Shared → Prop} {l : Addr} {its : List Value} {ns : List Int} {d : Int} {td : Tok} (hh : A.handled = none) (hl : s.heap.IsList l its.toArray) (hi : IntsAre its ns)
    (h : ∀ h' tk M t', (∀ b o, s.heap.get? b = some o → h'.get? b = some o) → (ns ≠ [] → M ∈ ns ∧ ∀ a, a ∈ ns → a ≤ M) → (ns = [] → M = d) → Q (.int M t') { s with heap := h', toks := tk }) : wpAny (model prog w) A (call (.builtin "max") [.ref l] [(Str.ofString "default", .int d td)]) Q E s := by
  obtain ⟨xs, e⟩ := hi.allInts.items
  have hn : numsOf (intItems xs).toList = ns := by rw [← e]; exact hi.numsOf
  rw [nums_intItems] at hn
  subst hn
  rw [e] at hl
  refine call_tree_kw F.kind_max F.plain_max F.entry_max (args_max_d _ _) ?_
  show wpAny (model prog w) A.in1 (Builtin.Builtins.bindParams "max" ["key", "default"] 0 ⟨[], [(Str.ofString "default", .int d td)]⟩ >>= _) _ _ s
  refine wpAny_bind (wpAny_of_eq (show Builtin.Builtins.bindParams "max" ["key", "default"] 0 ⟨[], [(Str.ofString "default", .int d td)]⟩ = pure [none, some (.int d td)] by kernel_rfl) ?_)
  refine wpAny_bind (wpAny_pure ?_)
  refine wpAny_bind (wpAny_mono (iter_intList (Q := fun it s₂ => it = .ref s.heap.objs.size ∧ s₂ = { s with heap := s.heap.push { cls := .type "list_iterator", data := .fields #[.ref l, .int 0 0] } } ∧ (s₂.heap.IsListIter s.heap.objs.size l 0 ∧ s₂.heap.IsList l (intItems xs)) ∧ ∀ b ∈ [s.heap.objs.size, l], b < s₂.heap.objs.size) hl fun s₂ e st hfp hlI => ⟨rfl, e, st, hfp⟩) ?_ fun _ _ e => e)
  rintro _ s₂ ⟨rfl, e, st, hfp⟩
  subst e
  have hne : l ≠ s.heap.objs.size := by obtain ⟨_, e, _⟩ := hl; exact Nat.ne_of_lt (Heap.lt_size e)
  have W := Walks.list (prog := prog) (w := w) (A := A.in1) hh _ l hne (intItems xs)
  refine wpAny_bind (wpAny_newObj_type ?_)
  rw [nm]
  have off := fun hm => Nat.lt_irrefl _ (hfp _ hm)
  have st2 := fun o2 : Obj => W.frame 0 _ ((s.heap.push { cls := .type "list_iterator", data := .fields #[.ref l, .int 0 0] }).push o2) st fun b _ o e => Heap.get?_push_of_some _ e
  have old : ∀ (h' : Heap) {S : Addr}, S = s.heap.objs.size + 1 → (∀ b o, b ∉ [s.heap.objs.size] → b ≠ S → ((s.heap.push { cls := .type "list_iterator", data := .fields #[.ref l, .int 0 0] }).push { cls := .type "list", data := .seq #[] }).get? b = some o → h'.get? b = some o) → ∀ b o, s.heap.get? b = some o → h'.get? b = some o := fun h' S eS k b o e => by
    have hb := Heap.lt_size e
    refine k b o (fun m => ?_) (by rw [eS]; exact Nat.ne_of_lt (Nat.lt_succ_of_lt hb)) (Heap.get?_push_of_some _ (Heap.get?_push_of_some _ e))
    rw [List.mem_singleton.mp m] at hb
    exact Nat.lt_irrefl _ hb
  have eS : ∀ o : Obj, (s.heap.push o).objs.size = s.heap.objs.size + 1 := fun o => Heap.size_push ..
  have sz : (intItems xs).size = xs.size := by simp [intItems]
  by_cases hz : (intItems xs).size = 0
  · refine wpAny_pure ⟨plainId_quiet F.plain_max_loop _, none_ W hz _ off (st2 _) (Heap.get?_push_size _ rfl) fun h' tk kept => ?_⟩
    have : xs.toList = [] := by
      apply List.eq_nil_of_length_eq_zero
      rw [Array.length_toList]
      omega
    exact h h' tk d td (old h' (eS _) kept) (fun q => absurd (by rw [this]; rfl) q) fun _ => rfl
  · refine wpAny_pure ⟨plainId_quiet F.plain_max_loop _, first W _ (CmpOf.ints_gt (numAt xs) (fun _ _ => intItems_at)) _ off (by omega) (st2 _) (Heap.get?_push_size _ rfl) fun v h' tk pv kept => ?_⟩
    obtain ⟨t, rfl⟩ := intItems_at (show (intItems xs)[_]? = some v from pv)
    obtain ⟨h1, h2⟩ := argBest_gt (numAt xs) ((intItems xs).size - 1)
    refine h h' tk _ t (old h' (eS _) kept) (fun _ => ⟨?_, fun a ha => ?_⟩) fun q => absurd q ?_
    · rw [numAt_eq]; exact PySem.getD_mem (by rw [List.length_map, Array.length_toList]; omega)
    · obtain ⟨j, hj, rfl⟩ := mem_getD ha
      rw [List.length_map, Array.length_toList] at hj
      rw [← numAt_eq]; exact h2 j (by omega)
    · intro e2
      have := congrArg List.length e2
      rw [List.length_map, Array.length_toList] at this
      have : xs.size = 0 := this
      omega
open PyProof.Rows L2 in
theorem rawT {prog : Program} {w : World} {A : Around} {s : Shared} {E Q : Value → Shared → Prop} {l : Addr} {its : List Value} {ns : List Int} (hh : A.handled = none) (hT : s.heap.IsTuple l its.toArray) (hi : IntsAre its ns) (hne : ns ≠ [])
    (h : ∀ h' tk M t', (∀ b o, s.heap.get? b = some o → h'.get? b = some o) → M ∈ ns → (∀ a, a ∈ ns → a ≤ M) → Q (.int M t') { s with heap := h', toks := tk }) : wpAny (model prog w) A (call (.builtin "max") [.ref l]) Q E s := by
  obtain ⟨xs, e⟩ := hi.allInts.items
  have hn : numsOf (intItems xs).toList = ns := by rw [← e]; exact hi.numsOf
  rw [nums_intItems] at hn
  subst hn
  rw [e] at hT
  have lt : l < s.heap.objs.size := by obtain ⟨_, e, _⟩ := hT; exact Heap.lt_size e
  have sz : (intItems xs).size = xs.size := by simp [intItems]
  have hx : 0 < xs.size := by
    cases q : xs.size with
    | zero => exact absurd (List.eq_nil_of_length_eq_zero (by rw [List.length_map, Array.length_toList]; exact q)) hne
    | succ n => exact Nat.succ_pos n
  refine call_max_walk (wpAny_pyIter_tuple hT ?_)
  refine ⟨_, [_, l], [_], _, _, _, _, rfl, Walks.tuple (A := A.in1) hh _ l (Nat.ne_of_lt lt) (intItems xs), ⟨⟨_, Heap.get?_push_size _ rfl, rfl, rfl⟩, hT.push _⟩, fun c hc => ?_, by rw [sz]; exact hx, CmpOf.ints_gt (numAt xs) (fun _ _ => intItems_at), fun v h' tk pv hk => ?_⟩
  · show c < (s.heap.push _).objs.size
    rw [Heap.size_push]
    rcases List.mem_cons.mp hc with rfl | hc
    · exact Nat.lt_succ_self _
    · rw [List.mem_singleton.mp hc]; exact Nat.lt_succ_of_lt lt
  · obtain ⟨t, rfl⟩ := intItems_at (show (intItems xs)[_]? = some v from pv)
    obtain ⟨h1, h2⟩ := argBest_gt (numAt xs) ((intItems xs).size - 1)
    refine h h' tk _ t (fun b o e => hk b o (fun m => ?_) (Heap.get?_push_of_some _ e)) ?_ fun a ha => ?_
    · have := Heap.lt_size e
      rw [List.mem_singleton.mp m] at this
      exact Nat.lt_irrefl _ this
    · rw [numAt_eq]; exact PySem.getD_mem (by rw [List.length_map, Array.length_toList]; omega)
    · obtain ⟨j, hj, rfl⟩ := mem_getD ha
      rw [List.length_map, Array.length_toList] at hj
      rw [← numAt_eq]; exact h2 j (by omega)
end MxD
namespace Y
open PySem PySem.Spec PyProof.Rows
open L2
def maxL (d : Int) : List Int → Int
  | [] => d
  | n :: r => r.foldl (fun a b => if a < b then b else a) n
theorem foldmax : ∀ (r : List Int) (n : Int), (r.foldl (fun a b => if a < b then b else a) n = n ∨ r.foldl (fun a b => if a < b then b else a) n ∈ r) ∧ n ≤ r.foldl (fun a b => if a < b then b else a) n ∧ ∀ a ∈ r, a ≤ r.foldl (fun a b => if a < b then b else a) n
  | [], n => ⟨.inl rfl, Int.le_refl _, fun _ m => nomatch m⟩
  | x :: r, n => by
    obtain ⟨h1, h2, h3⟩ := foldmax r (if n < x then x else n)
    simp only [List.foldl_cons]
    have hx : n ≤ (if n < x then x else n) ∧ x ≤ (if n < x then x else n) := by split <;> omega
    refine ⟨?_, Int.le_trans hx.1 h2, fun a m => ?_⟩
    · rcases h1 with e | m
      · rw [e]
        split
        · exact .inr List.mem_cons_self
        · exact .inl rfl
      · exact .inr (List.mem_cons_of_mem _ m)
    · rcases List.mem_cons.mp m with rfl | m
      · exact Int.le_trans hx.2 h2
      · exact h3 a m
theorem maxL_eq {ns : List Int} {M d : Int} (h : ns ≠ [] → M ∈ ns ∧ ∀ a, a ∈ ns → a ≤ M) (h0 : ns = [] → M = d) : M = maxL d ns := by
  cases ns with
  | nil => exact h0 rfl
  | cons n r =>
    obtain ⟨m, u⟩ := h (by simp)
    obtain ⟨h1, h2, h3⟩ := foldmax r n
    refine Int.le_antisymm ?_ (u _ ?_)
    · rcases List.mem_cons.mp m with rfl | m
      · exact h2
      · exact h3 M m
    · rcases h1 with e | m
      · show r.foldl _ n ∈ _
        rw [e]; exact List.mem_cons_self
      · exact List.mem_cons_of_mem _ m
def rMaxD (K : PySem.W.Frag) : List V → List V → Hp → VK → Prop := fun vs zs H Q => ∃ (a : Addr) (ns : List Int) (d : Int), vs = [V.ref a] ∧ zs = [.int d] ∧ SqL K H a (ns.map V.int) ∧ Q (.int (maxL d ns)) H
theorem cr_maxDef {X : Cx} (hc : X.calm = true) : CallRK X (.builtin "max") [Str.ofString "default"] (rMaxD X.K) := by
  intro pins s σ H vs zs us ws Q I r rz h
  obtain ⟨a, ns, d, rfl, rfl, hs, q⟩ := h
  obtain ⟨its, rv, hl, _⟩ := I.list hs
  obtain rfl := Vals.ref1 r
  obtain ⟨w1, rfl, t, e1⟩ := vals1 rz
  subst e1
  refine MxD.raw (I.ok.hd hc) hl.isList rv.ints fun h' tk m t' hk h1 h2 => ⟨.int _, H, I.kept hk, ⟨_, rfl⟩, ?_⟩
  rw [maxL_eq h1 h2]
  exact q
def rMaxT (K : PySem.W.Frag) : List V → Hp → VK → Prop := fun vs H Q => ∃ (a : Addr) (ns : List Int), vs = [V.ref a] ∧ ns ≠ [] ∧ SqT K H a (ns.map V.int) ∧ Q (.int (maxL 0 ns)) H
theorem cr_maxTup {X : Cx} (hc : X.calm = true) : CallR X (.builtin "max") (rMaxT X.K) := by
  intro pins s σ H vs us Q I r h
  obtain ⟨a, ns, rfl, hne, hs, q⟩ := h
  obtain ⟨its, rv, hl, _⟩ := I.tuple hs
  obtain rfl := Vals.ref1 r
  refine MxD.rawT (I.ok.hd hc) hl rv.ints hne fun h' tk m t' hk h1 h2 => ⟨.int _, H, I.kept hk, ⟨_, rfl⟩, ?_⟩
  rw [maxL_eq (d := 0) (fun _ => ⟨h1, h2⟩) fun e => absurd e hne]
  exact q
/-- the numbers of a tuple of numbers -/
def intsO : List D → Option (List Int)
  | [] => some []
  | .int i :: r => (intsO r).map (i :: ·)
  | _ :: _ => none
theorem intsO_eq : ∀ {ds : List D} {ns : List Int}, intsO ds = some ns → ds = ns.map D.int
  | [], ns, e => by cases e; rfl
  | .int i :: r, ns, e => by
    cases q : intsO r with
    | none =>
      have e' : (intsO r).map (i :: ·) = some ns := e
      rw [q] at e'; exact nomatch e'
    | some m =>
      have e' : (intsO r).map (i :: ·) = some ns := e
      rw [q] at e'
      cases e'
      rw [intsO_eq q]
      rfl
def asIs (d : D) : Res (List Int) := match d with | .tup ds => (match intsO ds with | Option.some (n :: r) => .ok (n :: r) | _ => .stuck) | _ => .stuck
theorem Post.asIs {β : Type} {d : D} {k : List Int → Res β} {P : β → Prop} {R : Err → Prop} (h : Post ((Y.asIs d).bind k) P R) : ∃ ns : List Int, ns ≠ [] ∧ d = .tup (ns.map D.int) ∧ Post (k ns) P R := by
  cases d with
  | tup ds =>
    have h' : Post ((match intsO ds with | Option.some (n :: r) => Res.ok (n :: r) | _ => Res.stuck).bind k) P R := h
    cases q : intsO ds with
    | none => rw [q] at h'; exact h'.elim
    | some m =>
      rw [q] at h'
      cases m with
      | nil => exact h'.elim
      | cons n r => exact ⟨n :: r, by simp, by rw [intsO_eq q], h'⟩
  | _ => exact h.elim
theorem h_maxTup {K : PySem.W.Frag} {B H : Hp} {Q : VK} {v : V} {ns : List Int} (w : Ex B H) (hne : ns ≠ []) (r : Rep K B v (.tup (ns.map D.int))) (h : Q (.int (maxL 0 ns)) H) : rMaxT K [v] H Q := by
  obtain ⟨p, xs, rfl, s, rr⟩ := r.st w
  refine ⟨p, ns, rfl, hne, ?_, h⟩
  rw [← RepL.of_ints rr]
  exact s
theorem h_ckw {σ : L2.St} {H : Hp} {Q : VK} {r : List V → List V → Hp → VK → Prop} {t tk : TA} (h : t σ H fun vs H1 => tk σ H1 fun zs H2 => r vs zs H2 Q) : tCKw r t tk σ H Q := h
theorem h_maxDef {K : PySem.W.Frag} {B H : Hp} {Q : VK} {p : Addr} {xs : List V} {l : List Int} {d : Int} (s : SqL K H p xs) (r : RepL K B xs (l.map Enc.enc)) (h : Q (.int (maxL d l)) H) : rMaxD K [.ref p] [.int d] H Q := by
  refine ⟨p, l, d, rfl, rfl, ?_, h⟩
  rw [← r.intsV]
  exact s
/-! # x & 255 -/
def rAnd255 : V → V → Hp → VK → Prop := fun x y H Q => ∃ (i : Int) (k : Nat), x = .int i ∧ y = .int (2 ^ k - 1) ∧ Q (.int (i % 2 ^ k)) H
theorem op_and255 {X : Cx} : OpR X (binaryOp .BitAnd) rAnd255 := op_andM
theorem h_and255 {H : Hp} {Q : VK} {i : Int} (h : Q (.int (i % 256)) H) : rAnd255 (.int i) (.int 255) H Q := ⟨i, 8, rfl, rfl, h⟩
/-! # what is never reached -/
theorem ps_unreached {X : Cx} {st : Stmt} : PS X st (fun _ _ _ => False) := ⟨fun _ _ _ _ _ _ h => h.elim⟩
theorem pss_unreached {X : Cx} {ss : List Stmt} : PSs X ss (fun _ _ _ => False) := ⟨fun _ _ _ _ _ _ h => h.elim⟩
/-! # comprehensions with places, and over two lists -/
section
variable {K : PySem.W.Frag} {B H : Hp} {σ : L2.St} {Q : VK} {p p2 : Addr} {xs ys : List V} {g : TG} {tt : TT} {te : TE} {α α' β S R' : Type} {P : β → Prop} {R : Err → Prop}
def LcE (K : PySem.W.Frag) (ws : List V) (g : TG) (tt : TT) (te : TE) (vs : List Nat) (σ : L2.St) (H : Hp) (Q : VK) : Prop := tLc (iEnum K (fun _ H Q => Q ws H)) g tt te vs σ H Q
theorem h_lcEnE {vs : List Nat} {ta : TA} (h : ta σ H fun ws H1 => LcE K ws g tt te vs σ H1 Q) : tLc (iEnum K ta) g tt te vs σ H Q := h
theorem h_lcEn [Enc α] {l : List α} {s0 : S} {f : Tp2 Int α → S → Res (Option R' × S)} {k : List R' × S → Res β} {vs : List Nat} (hP : Post ((compR (enumL l) s0 f).bind k) P R) (hs : SqL K H p xs) (hr : RepL K B xs (l.map Enc.enc))
    (J : Addr → List R' → S → Hp → Prop) (h0 : ∀ Dl, H Dl = none → J Dl [] s0 (upd H Dl (.lst []))) (hl : ∀ Dl acc s H', J Dl acc s H' → SqL K H' p xs)
    (hb : ∀ (Dl : Addr) (N : Hp → Prop) (T : Option R' × S → Prop) (x : Tp2 Int α) u acc s H', J Dl acc s H' → Rep K B u (Enc.enc x.b) → acc.length < sizeLine → (∀ b s' H2, J Dl (acc ++ [b]) s' H2 → T (some b, s') → N H2) → (∀ s' H2, J Dl acc s' H2 → T (none, s') → N H2) → Post (f x s) T R →
      NewT [.int x.a, u] H' fun v H1 => g v (wipe σ vs) H1 (LcT σ vs tt te Dl N))
    (hd : ∀ Dl acc s H', J Dl acc s H' → Post (k (acc, s)) P R → Q (.ref Dl) H') : LcE K [.ref p] g tt te vs σ H Q := by
  refine ⟨p, xs, rfl, hs, fun Dl hD => ?_⟩
  unfold compR at hP
  have hll : xs.length = l.length := by rw [hr.length, List.length_map]
  have hel : (enumL l).length = l.length := by unfold enumL; rw [List.length_mapIdx]
  have hz : (enumL l).length ≤ 1000000 := by
    by_cases c : (enumL l).length ≤ 1000000
    · exact c
    · unfold guardR at hP; rw [if_neg c] at hP; exact hP.elim
  unfold guardR at hP
  rw [if_pos hz] at hP
  refine lc_it (n := xs.length) walk_enum (fun i H' => ∃ acc s, J Dl acc s H' ∧ acc.length ≤ i ∧ Post ((compL ((enumL l).drop i) s f).bind fun q => k (acc ++ q.1, q.2)) P R) ⟨[], s0, h0 Dl hD, Nat.le_refl _, hP⟩ (fun i H' _ ⟨acc, s, j, _⟩ => hl Dl acc s H' j) ?_ ?_
  · rintro i v H' H2 hi ⟨acc, s, j, hn, q⟩ ⟨T, y1, y2, rfl, hT, rfl, h1, h2⟩
    cases Option.some.inj h1
    have hil : i < l.length := by omega
    have hx : (enumL l)[i]? = some ⟨(i : Int), l[i]⟩ := by
      unfold enumL
      rw [List.getElem?_mapIdx, List.getElem?_eq_getElem hil]
      rfl
    obtain ⟨u, hu, ru⟩ := hr.get (i := i) (d := Enc.enc l[i]) (by rw [List.getElem?_map, List.getElem?_eq_getElem hil]; rfl)
    have h2 : xs[i]? = some y2 := h2
    rw [h2] at hu; cases hu
    exact (hb Dl _ _ ⟨(i : Int), l[i]⟩ y2 acc s H' j ru (Nat.lt_of_le_of_lt (Nat.le_trans hn (Nat.le_trans (Nat.le_of_lt (hel.symm ▸ hil)) hz)) (by decide)) (fun b s' H2 j2 t2 => ⟨acc ++ [b], s', j2, by rw [List.length_append]; exact Nat.succ_le_succ hn, t2⟩) (fun s' H2 j2 t2 => ⟨acc, s', j2, Nat.le_succ_of_le hn, t2⟩) (q.compS hx)).2 T hT
  · rintro H' ⟨acc, s, j, _, q⟩
    rw [List.drop_eq_nil_of_le (by rw [hel, hll]; exact Nat.le_refl _)] at q
    have q2 : Post (k (acc ++ [], s)) P R := q
    rw [List.append_nil] at q2
    exact hd Dl acc s H' j q2
end
/-! # reverse, clear -/
section
variable {K : PySem.W.Frag} {B H : Hp} {Q : VK} {p : Addr} {ds : List D}
theorem h_reverse {α : Type} [Enc α] {l : List α} (w : Ex B H) (m : Mu K B H p (l.map Enc.enc)) (h : ∀ H', Stp [p] B H B H' → Mu K B H' p (l.reverse.map Enc.enc) → Q .non H') : rReverse (.ref p) [] H Q := by
  obtain ⟨xs, hp, _, rl⟩ := m.sq
  obtain ⟨s, m'⟩ := Stp.mut w m (RepL.rev (l := l) rl)
  exact ⟨p, xs, rfl, rfl, hp, h _ s m'⟩
theorem h_clear {α : Type} [Enc α] {l : List α} (w : Ex B H) (m : Mu K B H p (l.map Enc.enc)) (h : ∀ H', Stp [p] B H B H' → Mu K B H' p (([] : List α).map Enc.enc) → Q .non H') : rClear (.ref p) [] H Q := by
  obtain ⟨xs, hp, _, rl⟩ := m.sq
  obtain ⟨s, m'⟩ := Stp.mut (es := []) w m .nil
  exact ⟨p, xs, rfl, rfl, hp, h _ s m'⟩
end
theorem ExcT.toExcT {K : PySem.W.Frag} {mg : Str → Option Value} {nm : Str} {C : Addr} (T : ExcT K mg nm C) : ExcT K mg nm C := T
end Y

set_option Elab.async false
set_option linter.all false
set_option maxRecDepth 100000
set_option maxHeartbeats 4000000
namespace Y
open PySem PySem.Spec PyProof.Rows
open L2
open Enc (enc)
/-! # ints that the module names; divmod; x in a list of data -/
structure CI (mg : Str → Option Value) (nm : Str) (i : Int) : Prop where
  g : ∃ t, mg nm = Option.some (.int i t)
theorem pe_globI {X : Cx} {x : Str} {i : Int} {pos : Pos} (hg : Gl X x) (c : CI X.mg x i) (hd : (x == ("__debug__" : Str)) = false := by decide) : PE X (.Name x pos) (tC (.int i)) := by
  obtain ⟨t, h⟩ := c.g
  exact pe_glob (v := .int i) hg h ⟨t, rfl⟩ hd
theorem hu65_of {A : Around} {k : Nat} (hr : Room k A) : A.units + 65 < cLine := by have := hr.un; omega
def rDivmod : List V → Hp → VK → Prop := fun xs H Q => ∃ i j, xs = [.int i, .int j] ∧ CDiv i j ∧ ∀ p, H p = none → Q (.ref p) (upd H p (.tup [.int (i / j), .int (i % j)]))
theorem cr_divmod {X : Cx} : CallR X (.builtin "divmod") rDivmod := call_divmod
/-- x in l, of data -/
def inD (x : D) (l : List D) : Bool := (pyDs l).any fun z => PyData.eqv z (pyD x)
section
variable {K : PySem.W.Frag} {B H : Hp} {Q : VK} {x y : V} {d : D} {es : List D} {i j : Int}
theorem h_divmod (w : Ex B H) (hc : CDiv i j) (h : ∀ p B' H', Stp [] B H B' H' → Rep K B' (.ref p) (enc (⟨i / j, i % j⟩ : Tp2 Int Int)) → Q (.ref p) H') : rDivmod [.int i, .int j] H Q :=
  ⟨i, j, rfl, hc, fun p hp => h p _ _ (Stp.new w hp) (.tup (SqT.of upd_same) (.cons (.int _) (.cons (.int _) .nil)))⟩
theorem h_inD (w : Ex B H) (rx : Rep K B x d) (ry : Rep K B y (.lst es)) (o : okEq d (.lst es)) (h : Q (.bl (inD d es)) H) : rInD K x y H Q := ⟨_, _, rx.dp w o.1, ry.dp w o.2.1, o.2.2.1, o.2.2.2, h⟩
end
end Y
/-! # zip in comprehensions; str(o) by its own __str__; f-strings; texts one behind the other -/
namespace Y
open PySem PySem.Spec PyProof.Rows
open L2
open Enc (enc)
def zipL {α α' : Type} (l : List α) (m : List α') : List (Tp2 α α') := List.zipWith Tp2.mk l m
section
variable {K : PySem.W.Frag} {B H : Hp} {σ : L2.St} {Q : VK} {p p2 : Addr} {xs ys : List V} {g : TG} {tt : TT} {te : TE} {α α' β S R' : Type} {P : β → Prop} {R : Err → Prop}
def LcZ (K : PySem.W.Frag) (ws : List V) (g : TG) (tt : TT) (te : TE) (vs : List Nat) (σ : L2.St) (H : Hp) (Q : VK) : Prop := tLc (iZip K (fun _ H Q => Q ws H)) g tt te vs σ H Q
theorem h_lcZipE {vs : List Nat} {ta : TA} (h : ta σ H fun ws H1 => LcZ K ws g tt te vs σ H1 Q) : tLc (iZip K ta) g tt te vs σ H Q := h
theorem h_lcZip [Enc α] [Enc α'] {l : List α} {m : List α'} {s0 : S} {f : Tp2 α α' → S → Res (Option R' × S)} {k : List R' × S → Res β} {vs : List Nat} (hP : Post ((compR (zipL l m) s0 f).bind k) P R) (hs : SqL K H p xs) (hr : RepL K B xs (l.map Enc.enc)) (hs2 : SqL K H p2 ys) (hr2 : RepL K B ys (m.map Enc.enc))
    (J : Addr → List R' → S → Hp → Prop) (h0 : ∀ Dl, H Dl = none → J Dl [] s0 (upd H Dl (.lst []))) (hl : ∀ Dl acc s H', J Dl acc s H' → SqL K H' p xs ∧ SqL K H' p2 ys)
    (hb : ∀ (Dl : Addr) (N : Hp → Prop) (T : Option R' × S → Prop) (x : Tp2 α α') u u2 acc s H', J Dl acc s H' → Rep K B u (Enc.enc x.a) → Rep K B u2 (Enc.enc x.b) → acc.length < sizeLine → (∀ b s' H2, J Dl (acc ++ [b]) s' H2 → T (some b, s') → N H2) → (∀ s' H2, J Dl acc s' H2 → T (none, s') → N H2) → Post (f x s) T R →
      NewT [u, u2] H' fun v H1 => g v (wipe σ vs) H1 (LcT σ vs tt te Dl N))
    (hd : ∀ Dl acc s H', J Dl acc s H' → Post (k (acc, s)) P R → Q (.ref Dl) H') : LcZ K [.ref p, .ref p2] g tt te vs σ H Q := by
  refine ⟨p, p2, xs, ys, rfl, hs, hs2, fun Dl hD => ?_⟩
  unfold compR at hP
  have hll : xs.length = l.length := by rw [hr.length, List.length_map]
  have hll2 : ys.length = m.length := by rw [hr2.length, List.length_map]
  have hel : (zipL l m).length = min l.length m.length := by unfold zipL; rw [List.length_zipWith]
  have hz : (zipL l m).length ≤ 1000000 := by
    by_cases c : (zipL l m).length ≤ 1000000
    · exact c
    · unfold guardR at hP; rw [if_neg c] at hP; exact hP.elim
  unfold guardR at hP
  rw [if_pos hz] at hP
  refine lc_it (n := min xs.length ys.length) (walk_zip rfl) (fun i H' => ∃ acc s, J Dl acc s H' ∧ acc.length ≤ i ∧ Post ((compL ((zipL l m).drop i) s f).bind fun q => k (acc ++ q.1, q.2)) P R) ⟨[], s0, h0 Dl hD, Nat.le_refl _, hP⟩ (fun i H' _ ⟨acc, s, j, _⟩ => hl Dl acc s H' j) ?_ ?_
  · rintro i v H' H2 hi ⟨acc, s, j, hn, q⟩ ⟨T, y1, y2, rfl, hT, rfl, h1, h2⟩
    have h1 : xs[i]? = some y1 := h1
    have h2 : ys[i]? = some y2 := h2
    have hil : i < l.length := by omega
    have hil2 : i < m.length := by omega
    have hx : (zipL l m)[i]? = some ⟨l[i], m[i]⟩ := by
      unfold zipL
      rw [List.getElem?_zipWith, List.getElem?_eq_getElem hil, List.getElem?_eq_getElem hil2]
    obtain ⟨u, hu, ru⟩ := hr.get (i := i) (d := Enc.enc l[i]) (by rw [List.getElem?_map, List.getElem?_eq_getElem hil]; rfl)
    rw [h1] at hu; cases hu
    obtain ⟨u2, hu2, ru2⟩ := hr2.get (i := i) (d := Enc.enc m[i]) (by rw [List.getElem?_map, List.getElem?_eq_getElem hil2]; rfl)
    rw [h2] at hu2; cases hu2
    exact (hb Dl _ _ ⟨l[i], m[i]⟩ y1 y2 acc s H' j ru ru2 (Nat.lt_of_le_of_lt (Nat.le_trans hn (Nat.le_trans (by rw [hel]; omega) hz)) (by decide)) (fun b s' H2 j2 t2 => ⟨acc ++ [b], s', j2, by rw [List.length_append]; exact Nat.succ_le_succ hn, t2⟩) (fun s' H2 j2 t2 => ⟨acc, s', j2, Nat.le_succ_of_le hn, t2⟩) (q.compS hx)).2 T hT
  · rintro H' ⟨acc, s, j, _, q⟩
    rw [List.drop_eq_nil_of_le (by rw [hel, hll, hll2]; exact Nat.le_refl _)] at q
    have q2 : Post (k (acc ++ [], s)) P R := q
    rw [List.append_nil] at q2
    exact hd Dl acc s H' j q2
end
def rAddS : V → V → Hp → VK → Prop := fun x y H Q => ∃ i j, x = .str i ∧ y = .str j ∧ i.length + j.length ≤ sizeLine ∧ Q (.str (i ++ j)) H
theorem op_addS {X : Cx} : OpR X (binaryOp .Add) rAddS := op_add_str
theorem h_addS {H : Hp} {Q : VK} {i j : Str} (hz : i.length + j.length ≤ 1000000) (h : Q (.str (i ++ j)) H) : rAddS (.str i) (.str j) H Q := ⟨i, j, rfl, rfl, Nat.le_trans hz (by decide), h⟩
theorem h_fmt {te : TE} {σ : L2.St} {H : Hp} {Q : VK} (h : te σ H fun x H1 => (∃ y : Str, x = .str y ∧ y.length ≤ sizeLine ∧ Q (.str y) H1) ∨ ∃ i : Int, x = .int i ∧ i.natAbs.log2 < 1920 ∧ Q (.str (toString i)) H1) : tFmt te σ H Q := h
theorem h_js {t : TE} {ts : List TE} {acc : Str} {σ : L2.St} {H : Hp} {Q : Str → Hp → Prop} (h : t σ H fun x H1 => ∃ y : Str, x = .str y ∧ (acc ++ y).length ≤ sizeLine ∧ tJs ts (acc ++ y) σ H1 Q) : tJs (t :: ts) acc σ H Q := h
theorem h_jsS {ts : List TE} {acc y : Str} {σ : L2.St} {H : Hp} {Q : Str → Hp → Prop} (hz : (acc ++ y).length ≤ 1000000) (h : tJs ts (acc ++ y) σ H Q) : ∃ z : Str, V.str y = .str z ∧ (acc ++ z).length ≤ sizeLine ∧ tJs ts (acc ++ z) σ H Q := ⟨y, rfl, Nat.le_trans hz (by decide), h⟩
theorem h_jsN {acc : Str} {σ : L2.St} {H : Hp} {Q : Str → Hp → Prop} (h : Q acc H) : tJs [] acc σ H Q := h
def tJoin (ts : List TE) : TE := fun σ H Q => tJs ts Str.empty σ H fun out H1 => Q (.str out) H1
theorem h_join {ts : List TE} {σ : L2.St} {H : Hp} {Q : VK} (h : tJs ts Str.empty σ H fun out H1 => Q (.str out) H1) : tJoin ts σ H Q := h
/-- str(o), o of one of several classes -/
def rStrO (A : Addr → Sp → Prop) : List V → Hp → VK → Prop := fun vs H Q => ∃ (a C dx : Addr) (fs : List (Str × V)) (sp : Sp), vs = [V.ref a] ∧ H a = some (.ins C dx fs) ∧ A C sp ∧ sp [V.ref a] H (fun v H2 => ∃ y, v = .str y ∧ Q v H2) (fun _ _ _ => False)
theorem cr_strO {X : Cx} {A : Addr → Sp → Prop} {k : Nat} (hA : ∀ C sp, A C sp → MAlt X.prog X.w X.K X.mg X.base CX0 k "__str__" C sp) (hr : Room (k + 1) X.A) : CallR X (.type "str") (rStrO A) := by
  intro pins s σ H xs us Q I r h
  obtain ⟨a, C, dx, fs, sp, rfl, ea, hAC, q⟩ := h
  cases r with
  | cons r1 r2 =>
    cases r2
    obtain rfl : _ = Value.ref a := r1
    obtain ⟨f, fd, ps, c, hm, F, hb⟩ := (hA C sp hAC).ex
    obtain ⟨mA, O, _⟩ := ins_get I.hok ea
    obtain ⟨od, J, _⟩ := O.look
    have un := hr.un
    have dp := hr.dp
    refine PySem.W.kso_call (by show X.A.in1.in1.units < cLine; simp only [Around.in1]; omega) I.kIn J hm.at_ hm.fn ?_
    have hr' : Room k X.A.in1.in1 := ⟨hr.hd, by show X.A.depth + 3 * k + 5 < recursionLimit; omega, by simp only [Around.in1]; omega⟩
    have r2 : Vals [V.ref a] [Value.ref a] := .cons rfl .nil
    have hl : ([Value.ref a] ++ []).length = ps.length := F.len _ _ _ _ q
    refine wpAny_call (codeAny_mono (F.run X.A.in1.in1 X.stack s H ⟨[.ref a], []⟩ [.ref a] [V.ref a] _ _ hr' I.env0.in1.in1 (hb s [.ref a] I.kIn hl) r2 q) fun r s' hq => ?_)
    cases r with
    | error e => exact False.elim hq
    | ok fl =>
      cases fl with
      | ret u =>
        obtain ⟨v, H', I', rv, y, rfl, q2⟩ := I.after hq
        obtain ⟨t, rfl⟩ := rv
        exact ⟨.str y, H', I', ⟨t, rfl⟩, q2⟩
      | next => exact False.elim hq
      | brk => exact False.elim hq
      | cont => exact False.elim hq
theorem h_strO {A : Addr → Sp → Prop} {H : Hp} {Q : VK} {v : V} (h : ∃ (a C dx : Addr) (fs : List (Str × V)) (sp : Sp), v = .ref a ∧ H a = some (.ins C dx fs) ∧ A C sp ∧ sp [v] H (fun v H2 => ∃ y, v = .str y ∧ Q v H2) (fun _ _ _ => False)) : rStrO A [v] H Q := by
  obtain ⟨a, C, dx, fs, sp, rfl, q⟩ := h
  exact ⟨a, C, dx, fs, sp, rfl, q⟩
end Y

set_option Elab.async false
set_option linter.all false
set_option maxRecDepth 100000
set_option maxHeartbeats 4000000
/-! # lists within what was told, free at the entry: they may be written -/
namespace Y
open PySem PySem.Spec PyProof.Rows
open L2
open Enc (enc)
section
variable {K : PySem.W.Frag} {σ : L2.St} {H : Hp} {Q : VK} {g : TG} {tt : TT} {te : TE} {β S R' : Type} {P : β → Prop} {R : Err → Prop}
def LcR2 (ws : List V) (g : TG) (tt : TT) (te : TE) (vs : List Nat) (σ : L2.St) (H : Hp) (Q : VK) : Prop := tLc (iRng2 (fun _ H Q => Q ws H)) g tt te vs σ H Q
theorem h_lcR2E {vs : List Nat} {ta : TA} (h : ta σ H fun ws H1 => LcR2 ws g tt te vs σ H1 Q) : tLc (iRng2 ta) g tt te vs σ H Q := h
theorem h_lcR2 {lo hi : Int} {s0 : S} {f : Int → S → Res (Option R' × S)} {k : List R' × S → Res β} {vs : List Nat} (hP : Post ((compR (rngI lo hi) s0 f).bind k) P R)
    (J : Addr → List R' → S → Hp → Prop) (h0 : ∀ Dl, H Dl = none → J Dl [] s0 (upd H Dl (.lst [])))
    (hb : ∀ (Dl : Addr) (N : Hp → Prop) (T : Option R' × S → Prop) (x : Int) acc s H', J Dl acc s H' → lo ≤ x → x < hi → acc.length < sizeLine → (∀ b s' H2, J Dl (acc ++ [b]) s' H2 → T (some b, s') → N H2) → (∀ s' H2, J Dl acc s' H2 → T (none, s') → N H2) → Post (f x s) T R →
      g (.int x) (wipe σ vs) H' (LcT σ vs tt te Dl N))
    (hd : ∀ Dl acc s H', J Dl acc s H' → Post (k (acc, s)) P R → Q (.ref Dl) H') (hz2 : (-(2 ^ 62) ≤ lo ∧ lo < 2 ^ 62) ∧ -(2 ^ 62) ≤ hi ∧ hi < 2 ^ 62) : LcR2 [.int lo, .int hi] g tt te vs σ H Q := by
  unfold compR at hP
  have hz : (rngI lo hi).length ≤ 1000000 := by
    by_cases c : (rngI lo hi).length ≤ 1000000
    · exact c
    · unfold guardR at hP; rw [if_neg c] at hP; exact hP.elim
  unfold guardR at hP
  rw [if_pos hz] at hP
  rw [rngI_len] at hz
  refine ⟨lo, hi, rfl, ⟨hz2.1.1, hz2.1.2, hz2.2.1, hz2.2.2⟩, fun Dl hD => ?_⟩
  refine lc_range (lo := lo) (n := (hi - lo).toNat) (fun i H' => ∃ acc s, J Dl acc s H' ∧ acc.length ≤ i ∧ Post ((compL ((rngI lo hi).drop i) s f).bind fun q => k (acc ++ q.1, q.2)) P R) ⟨[], s0, h0 Dl hD, Nat.le_refl _, hP⟩ ?_ ?_
  · rintro i H' hi' ⟨acc, s, j, hn, q⟩
    have hx := rngI_get (lo := lo) (hi := hi) (i := i) (by omega)
    exact hb Dl _ _ (lo + (i : Int)) acc s H' j (by omega) (by omega) (Nat.lt_of_le_of_lt (Nat.le_trans hn (Nat.le_trans (Nat.le_of_lt hi') hz)) (by decide)) (fun b s' H2 j2 t2 => ⟨acc ++ [b], s', j2, by rw [List.length_append]; exact Nat.succ_le_succ hn, t2⟩) (fun s' H2 j2 t2 => ⟨acc, s', j2, Nat.le_succ_of_le hn, t2⟩) (q.compS hx)
  · rintro H' ⟨acc, s, j, _, q⟩
    rw [List.drop_eq_nil_of_le (by rw [rngI_len]; omega)] at q
    have q2 : Post (k (acc ++ [], s)) P R := q
    rw [List.append_nil] at q2
    exact hd Dl acc s H' j q2
end
abbrev Bx3 := Tp3 Int (List Int) Int
abbrev Ix3 := Tp3 Int Int (List Int)
section
variable {K : PySem.W.Frag} {B B' B0 H H' H0 : Hp} {Q : VK} {xs ys : List V} {ds : List D} {p q : Addr} {v y : V} {W : List Addr}
theorem h_nwLn (w : Ex B H) (r : RepL K B xs ds) (h : ∀ p B' H', H p = none → (∃ ws, B' p = some (.lst ws) ∧ RepL K B' ws ds) → Stp [] B H B' H' → Rep K B' (.ref p) (.lst ds) → Q (.ref p) H') : NwL xs H Q :=
  fun p hp => h p _ _ hp ⟨xs, upd_same, r.mono (Ex.new (w.none hp))⟩ (Stp.new w hp) (.lst (SqL.of upd_same) (r.mono (Ex.new (w.none hp))))
theorem h_newTn (w : Ex B H) (r : RepL K B xs ds) (h : ∀ p B' H', B' p = some (.tup xs) → Stp [] B H B' H' → Rep K B' (.ref p) (.tup ds) → Q (.ref p) H') (hn : xs.length ≤ sizeLine) : NewT xs H Q :=
  ⟨hn, fun p hp => h p _ _ upd_same (Stp.new w hp) (.tup (SqT.of upd_same) (r.mono (Ex.new (w.none hp))))⟩
/-- a list that stands in the known part -/
def BLst (K : PySem.W.Frag) (B : Hp) (p : Addr) (ds : List D) : Prop := ∃ ws, B p = some (.lst ws) ∧ RepL K B ws ds
theorem BLst.mono (h : BLst K B p ds) (e : Ex B B') : BLst K B' p ds := by
  obtain ⟨ws, h1, h2⟩ := h
  exact ⟨ws, e _ _ h1, h2.mono e⟩
theorem BLst.rep (h : BLst K B p ds) : Rep K B (.ref p) (.lst ds) := by
  obtain ⟨ws, h1, h2⟩ := h
  exact .lst (SqL.of h1) h2
/-- a box that was told: its body is new -/
def LB (K : PySem.W.Frag) (B H : Hp) (v : V) : Option Bx3 → Prop
  | none => v = .non
  | some x => ∃ t p, v = .ref t ∧ B t = some (.tup [.int x.a, .ref p, .int x.c]) ∧ BLst K B p (x.b.map enc) ∧ H p = none
theorem LB.rep {r : Option Bx3} (h : LB K B H v r) : Rep K B v (enc r) := by
  cases r with
  | none => rw [show v = .non from h]; exact .non
  | some x =>
    obtain ⟨t, p, rfl, ht, hp, _⟩ := h
    exact .tup (SqT.of ht) (.cons (.int _) (.cons hp.rep (.cons (.int _) .nil)))
theorem LB.mono {r : Option Bx3} (h : LB K B H v r) (e : Ex B B') : LB K B' H v r := by
  cases r with
  | none => exact h
  | some x =>
    obtain ⟨t, p, rfl, ht, hp, hn⟩ := h
    exact ⟨t, p, rfl, e _ _ ht, hp.mono e, hn⟩
def RetB (K : PySem.W.Frag) (B H : Hp) (r : Option Bx3) (Q : VK) : Prop := ∀ v B' H', Stp [] B H B' H' → LB K B' H v r → Q v H'
/-- boxes that were told -/
def LX (K : PySem.W.Frag) (B H : Hp) (q : Addr) (v : V) (x : Ix3) : Prop := ∃ t p, v = .ref t ∧ B t = some (.tup [.int x.a, .int x.b, .ref p]) ∧ BLst K B p (x.c.map enc) ∧ H p = none ∧ p ≠ q
inductive LXs (K : PySem.W.Frag) (B H : Hp) (q : Addr) : List V → List Ix3 → Prop where
  | nil : LXs K B H q [] []
  | cons {v : V} {x : Ix3} {vs : List V} {l : List Ix3} (h : LX K B H q v x) (t : LXs K B H q vs l) : LXs K B H q (v :: vs) (x :: l)
theorem LX.rep {x : Ix3} (h : LX K B H q v x) : Rep K B v (enc x) := by
  obtain ⟨t, p, rfl, ht, hp, _⟩ := h
  exact .tup (SqT.of ht) (.cons (.int _) (.cons (.int _) (.cons hp.rep .nil)))
theorem LX.mono {x : Ix3} (h : LX K B H q v x) (e : Ex B B') : LX K B' H q v x := by
  obtain ⟨t, p, rfl, ht, hp, hn⟩ := h
  exact ⟨t, p, rfl, e _ _ ht, hp.mono e, hn⟩
theorem LXs.rep : ∀ {vs : List V} {l : List Ix3}, LXs K B H q vs l → RepL K B vs (l.map enc)
  | _, _, .nil => .nil
  | _, _, .cons h t => .cons h.rep t.rep
theorem LXs.mono (e : Ex B B') : ∀ {vs : List V} {l : List Ix3}, LXs K B H q vs l → LXs K B' H q vs l
  | _, _, .nil => .nil
  | _, _, .cons h t => .cons (h.mono e) (LXs.mono e t)
theorem LXs.snoc {x : Ix3} (h : LX K B H q v x) : ∀ {vs : List V} {l : List Ix3}, LXs K B H q vs l → LXs K B H q (vs ++ [v]) (l ++ [x])
  | _, _, .nil => .cons h .nil
  | _, _, .cons g t => .cons g (LXs.snoc h t)
def FaX (K : PySem.W.Frag) (B H H' : Hp) (q : Addr) (l : List Ix3) : Prop := B q = none ∧ ∃ xs, H' q = some (.lst xs) ∧ LXs K B H q xs l
theorem FaX.mu {l : List Ix3} (f : FaX K B H0 H q l) : Mu K B H q (l.map enc) := by
  obtain ⟨hb, xs, hq, r⟩ := f
  exact ⟨hb, xs, hq, r.rep⟩
theorem FaX.nil (w : Ex B H) (h : H q = none) : FaX K B H0 (upd H q (.lst [])) q [] := ⟨w.none h, [], upd_same, .nil⟩
theorem FaX.step {l : List Ix3} (f : FaX K B H0 H q l) (s : Stp W B H B' H') (h : q ∉ W) : FaX K B' H0 H' q l := by
  obtain ⟨hb, xs, hq, r⟩ := f
  exact ⟨s.nw _ _ hb hq, xs, s.fr _ _ h hq, r.mono s.ex⟩
def RetX (K : PySem.W.Frag) (B H : Hp) (r : List Ix3) (Q : VK) : Prop := ∀ q B' H', Stp [] B H B' H' → H q = none → FaX K B' H H' q r → Q (.ref q) H'
theorem h_newX (w : Ex B H) (h : ∀ p H', H p = none → Stp [] B H B H' → FaX K B H0 H' p [] → Q (.ref p) H') : NewL [] H Q :=
  ⟨Nat.zero_le _, fun p hp => h p _ hp (Stp.newM w hp) (FaX.nil w hp)⟩
theorem h_appX {l : List Ix3} {b : Ix3} (w : Ex B H) (f : FaX K B H0 H q l) (ry : LX K B H0 q y b) (hz : l.length < 1000000) (h : ∀ H', Stp [q] B H B H' → FaX K B H0 H' q (l ++ [b]) → Q .non H') : rAppend (.ref q) [y] H Q := by
  have m := f.mu
  obtain ⟨hb, xs, hp, hr⟩ := f
  have hlen : xs.length = l.length := by rw [hr.rep.length, List.length_map]
  refine ⟨q, xs, y, rfl, rfl, hp, by rw [hlen]; exact Nat.lt_of_lt_of_le hz (by decide), ?_⟩
  have r2 := hr.snoc ry
  obtain ⟨s, _⟩ := Stp.mut w m r2.rep
  exact h _ s ⟨hb, xs ++ [y], upd_same, r2⟩
/-! ### and now they are written, and never read again -/
theorem Stp.back (a : Stp W B H B' H') : Stp W B H B H' := ⟨Ex.refl B, a.ex.trans a.ok, a.fr, a.al, fun _ _ h _ => h⟩
theorem Stp.wr {o : HO} (a : Stp W B H B H') (h0 : H p = none) (w : Ex B H) (h : ∃ u, H' p = some u) : Stp W B H B (upd H' p o) := a.own h0 (w.none h0) h
/-- one of them, somewhen -/
def RvE (H0 H : Hp) (q : Addr) (M : Nat) (v : V) : Prop := ∃ t a b p zs, v = .ref t ∧ H t = some (.tup [.int a, .int b, .ref p]) ∧ H p = some (.lst ((zs : List Int).map V.int)) ∧ zs.length ≤ M ∧ H0 p = none ∧ p ≠ q
theorem ints_of : ∀ {vs : List V} {zs : List Int}, RepL K B vs (zs.map enc) → vs = zs.map V.int
  | _, [], .nil => rfl
  | _, z :: zs, .cons h t => by
    cases h
    rw [ints_of t]
    rfl
theorem repL_ints : ∀ (zs : List Int), RepL K B (zs.map V.int) (zs.map enc)
  | [] => .nil
  | z :: zs => .cons (.int z) (repL_ints zs)
theorem LXs.rv (w : Ex B H) {M : Nat} : ∀ {vs : List V} {l : List Ix3}, LXs K B H0 q vs l → (∀ x ∈ l, x.c.length ≤ M) → ∀ v ∈ vs, RvE H0 H q M v
  | _, _, .nil, _ => fun _ m => nomatch m
  | _, x :: l, .cons h t, hM => fun v m => by
    rcases List.mem_cons.mp m with rfl | m
    · obtain ⟨t, p, rfl, ht, ⟨ws, e1, e2⟩, hn, ne⟩ := h
      rw [ints_of e2] at e1
      exact ⟨t, x.a, x.b, p, x.c, rfl, w _ _ ht, w _ _ e1, hM x List.mem_cons_self, hn, ne⟩
    · exact LXs.rv w t (fun y m => hM y (List.mem_cons_of_mem _ m)) v m
/-- where each turn may write one of them -/
def Rav (B H H' : Hp) (q : Addr) (xs : List V) (M : Nat) : Prop := Stp [] B H B H' ∧ H' q = some (.lst xs) ∧ ∀ v ∈ xs, RvE H H' q M v
theorem Rav.wr {M : Nat} {t p : Addr} {a b : Int} {zs : List Int} (w : Ex B H) (r : Rav B H H' q xs M) (hp : H' p = some (.lst (zs.map V.int))) (hz : zs.length ≤ M) (h0 : H p = none) (ne : p ≠ q) : Rav B H (upd H' p (.lst ((zs ++ [0]).map V.int))) q xs (M + 1) := by
  obtain ⟨s, hq, hv⟩ := r
  refine ⟨s.wr h0 w ⟨_, hp⟩, by rw [upd_ne ne.symm]; exact hq, fun v m => ?_⟩
  obtain ⟨t, a, b, p2, z2, rfl, ht, hp2, hz2, h2, n2⟩ := hv v m
  have tp : t ≠ p := fun e => by rw [e, hp] at ht; exact nomatch ht
  by_cases e : p2 = p
  · subst e
    exact ⟨t, a, b, p2, zs ++ [0], rfl, by rw [upd_ne tp]; exact ht, upd_same, by rw [List.length_append]; exact Nat.succ_le_succ hz, h2, n2⟩
  · exact ⟨t, a, b, p2, z2, rfl, by rw [upd_ne tp]; exact ht, by rw [upd_ne e]; exact hp2, Nat.le_succ_of_le hz2, h2, n2⟩
theorem h_forRav {g : TG} {tb : TS} {D' : Ends} {σ : L2.St} {M n : Nat} (w : Ex B H) (r : Rav B H H' q xs M) (hn : xs.length = n) (hM : M + n < 1000000) (S : Option V → L2.St) (hσ : ∃ o, σ = S o)
    (hb : ∀ (N : L2.St → Hp → Prop) (t p : Addr) (a b : Int) (zs : List Int) (o : Option V) H2, H2 t = some (.tup [.int a, .int b, .ref p]) → H2 p = some (.lst (zs.map V.int)) → zs.length < 1000000 →
      (∀ o', N (S o') (upd H2 p (.lst ((zs ++ [0]).map V.int)))) → g (.ref t) (S o) H2 fun σ2 H2 => tb { D' with nx := N, ct := N, bk := D'.nx } σ2 H2)
    (hd : ∀ o H2, Stp [] B H B H2 → H2 q = some (.lst xs) → D'.nx (S o) H2) : tFor (iList K (tC (.ref q))) g tb D' σ H' := by
  refine ⟨q, rfl, ⟨xs, SqL.of r.2.1⟩, for_list (K := K) (a := q) (xs := xs) (fun i σ' H2 => (∃ o, σ' = S o) ∧ Rav B H H2 q xs (M + i)) ⟨hσ, r⟩ (fun i σ' H2 _ ⟨_, j⟩ => SqL.of j.2.1) ?_ ?_⟩
  · rintro i v σ' H2 hi ⟨⟨o, rfl⟩, j⟩
    have hil := (List.getElem?_eq_some_iff.mp hi).1
    obtain ⟨t, a, b, p, zs, rfl, ht, hp, hz, h0, ne⟩ := j.2.2 v (List.mem_of_getElem? hi)
    exact hb _ t p a b zs o H2 ht hp (by omega) fun o' => ⟨⟨o', rfl⟩, j.wr (t := t) (a := a) (b := b) w hp hz h0 ne⟩
  · rintro σ' H2 ⟨⟨o, rfl⟩, j⟩
    exact hd o H2 j.1 j.2.1
theorem h_bmR {r : V → List V → Hp → VK → Prop} {t : TA} {σ : L2.St} (h : H p = some (.lst xs)) (g : t σ H fun ys H2 => r (.ref p) ys H2 Q) : Bm K "list" r t σ (.ref p) H Q := ⟨.inl ⟨rfl, _, .inl (.inl h)⟩, g⟩
theorem h_bmR0 {r : V → List V → Hp → VK → Prop} {σ : L2.St} (h : H p = some (.lst xs)) (g : r (.ref p) [] H Q) : Bm0 K "list" r σ (.ref p) H Q := ⟨.inl ⟨rfl, _, .inl (.inl h)⟩, g⟩
theorem h_appR (h : H p = some (.lst xs)) (hz : xs.length < 1000000) (g : Q .non (upd H p (.lst (xs ++ [y])))) : rAppend (.ref p) [y] H Q := ⟨p, xs, y, rfl, rfl, h, Nat.lt_of_lt_of_le hz (by decide), g⟩
theorem h_revR (h : H p = some (.lst xs)) (g : Q .non (upd H p (.lst xs.reverse))) : rReverse (.ref p) [] H Q := ⟨p, xs, rfl, rfl, h, g⟩
theorem h_revRv (h : H p = some (.lst xs)) (s : Stp [] B H0 B H) (w : Ex B H0) (h0 : H0 p = none) (g : ∀ H', Stp [] B H0 B H' → H' p = some (.lst xs.reverse) → Q .non H') : rReverse (.ref p) [] H Q :=
  h_revR h (g _ (s.wr h0 w ⟨_, h⟩) upd_same)
theorem h_appRv (h : H p = some (.lst xs)) (hz : xs.length < 1000000) (s : Stp [] B H0 B H) (w : Ex B H0) (h0 : H0 p = none) (g : ∀ H', Stp [] B H0 B H' → H' p = some (.lst (xs ++ [y])) → Q .non H') : rAppend (.ref p) [y] H Q :=
  h_appR h hz (g _ (s.wr h0 w ⟨_, h⟩) upd_same)
theorem Rav.start {B1 H1 : Hp} {l : List Ix3} (s : Stp [] B H B1 H1) (fx : FaX K B1 H H1 q l) (gd : (l.all fun x => decide (x.c.length + l.length < 999999)) = true) : ∃ xs M, Rav B H H1 q xs M ∧ xs.length = l.length ∧ M + l.length < 1000000 := by
  obtain ⟨hb, xs, hq, r⟩ := fx
  have hl : xs.length = l.length := by rw [r.rep.length, List.length_map]
  have hg : ∀ x ∈ l, x.c.length + l.length < 999999 := fun x m => of_decide_eq_true (List.all_eq_true.mp gd x m)
  refine ⟨xs, 999999 - l.length, ⟨s.back, hq, r.rv s.ok fun x m => by have := hg x m; omega⟩, hl, ?_⟩
  cases l with
  | nil => decide
  | cons x l =>
    have := hg x List.mem_cons_self
    omega
theorem isA_tup3 {a b : Int} {zs : List Int} : isA "tuple" (enc (⟨a, b, zs⟩ : Ix3)) = true := (by decide +kernel : isS "tuple" "tuple" = true)
theorem isA_lst1 {zs : List Int} : isA "list" (enc zs) = true := (by decide +kernel : isS "list" "list" = true)
end
end Y

set_option Elab.async false
set_option linter.all false
set_option maxRecDepth 100000
set_option maxHeartbeats 4000000
/-! # instances that change; what a def hands back and may be written -/
namespace Y
open PySem PySem.Spec PyProof.Rows
open L2
open Enc (enc)
structure Tp6 (α β γ δ ε ζ : Type) where
  a : α
  b : β
  c : γ
  d : δ
  e : ε
  f : ζ
instance {α β γ δ ε ζ : Type} [Enc α] [Enc β] [Enc γ] [Enc δ] [Enc ε] [Enc ζ] : Enc (Tp6 α β γ δ ε ζ) := ⟨fun t => .tup [enc t.a, enc t.b, enc t.c, enc t.d, enc t.e, enc t.f]⟩
structure Tp7 (α β γ δ ε ζ η : Type) where
  a : α
  b : β
  c : γ
  d : δ
  e : ε
  f : ζ
  g : η
instance {α β γ δ ε ζ η : Type} [Enc α] [Enc β] [Enc γ] [Enc δ] [Enc ε] [Enc ζ] [Enc η] : Enc (Tp7 α β γ δ ε ζ η) := ⟨fun t => .tup [enc t.a, enc t.b, enc t.c, enc t.d, enc t.e, enc t.f, enc t.g]⟩
/-- an instance of the class at C, its fields by name -/
def MuN (K : PySem.W.Frag) (C : Addr) (ns : List Str) (B H : Hp) (p : Addr) (ds : List D) : Prop := B p = none ∧ ∃ dx vs, H p = some (.ins C dx (ns.zip vs)) ∧ vs.length = ns.length ∧ RepL K B vs ds
def RetMI (K : PySem.W.Frag) (C : Addr) (ns : List Str) (p : Addr) (B H : Hp) (d : D) (ds : List D) (Q : VK) : Prop := ∀ v B' H', Stp [p] B H B' H' → MuN K C ns B' H' p ds → Rep K B' v d → Q v H'
def nthR {α : Type} (l : List α) (k : Nat) : Res α := match l[k]? with | some x => .ok x | none => .stuck
theorem Post.nth {α β : Type} {l : List α} {k : Nat} {f : α → Res β} {P : β → Prop} {R : Err → Prop} (h : Post ((nthR l k).bind f) P R) : ∃ x, l[k]? = Option.some x ∧ Post (f x) P R := by
  unfold nthR at h
  cases e : l[k]? with
  | none => rw [e] at h; exact h.elim
  | some x => rw [e] at h; exact ⟨x, rfl, h⟩
/-- the place of a field -/
def ixS (f : Str) : List Str → Option Nat
  | [] => none
  | g :: r => if g = f then some 0 else (ixS f r).map (· + 1)
theorem lk_zip {f : Str} {v : V} : ∀ {ns : List Str} {vs : List V} {k : Nat}, ixS f ns = some k → vs[k]? = some v → (ns.zip vs).lookup f = some v
  | [], _, _, h, _ => nomatch h
  | g :: r, [], k, _, e => by simp at e
  | g :: r, x :: vs, k, h, e => by
    unfold ixS at h
    show (match f == g with | true => some x | false => (r.zip vs).lookup f) = some v
    by_cases c : g = f
    · rw [if_pos c] at h
      cases h
      rw [show (f == g) = true from beq_iff_eq.mpr c.symm]
      simpa using e
    · rw [if_neg c] at h
      obtain ⟨j, hj, rfl⟩ := Option.map_eq_some_iff.mp h
      rw [show (f == g) = false from beq_eq_false_iff_ne.mpr fun z => c z.symm]
      exact lk_zip hj (by simpa using e)
theorem put_zip {f : Str} {v : V} : ∀ {ns : List Str} {vs : List V} {k : Nat}, ixS f ns = some k → vs.length = ns.length → putF f v (ns.zip vs) = ns.zip (vs.set k v)
  | [], _, _, h, _ => nomatch h
  | g :: r, [], k, _, e => nomatch e
  | g :: r, x :: vs, k, h, e => by
    unfold ixS at h
    show (if g = f then (g, v) :: r.zip vs else (g, x) :: putF f v (r.zip vs)) = _
    by_cases c : g = f
    · rw [if_pos c] at h ⊢
      cases h
      rfl
    · rw [if_neg c] at h ⊢
      obtain ⟨j, hj, rfl⟩ := Option.map_eq_some_iff.mp h
      rw [put_zip hj (Nat.succ.inj e)]
      rfl
theorem lk_none {m : Str} : ∀ {ns : List Str} {vs : List V}, ns.contains m = false → (ns.zip vs).lookup m = none
  | [], _, _ => rfl
  | g :: r, [], _ => rfl
  | g :: r, x :: vs, h => by
    rw [List.contains_cons, Bool.or_eq_false_iff] at h
    show (match m == g with | true => some x | false => (r.zip vs).lookup m) = none
    rw [h.1]
    exact lk_none h.2
section
variable {K : PySem.W.Frag} {mg : Str → Option Value} {B B' H H' H0 : Hp} {W : List Addr} {C p q dx : Addr} {ns : List Str} {ds es : List D} {d : D} {v : V} {Q : VK} {xs : List V} {f m nm : Str} {ta tv : TE} {σ : L2.St} {D' : Ends} {k : Nat} {b : D}
theorem MuN.step (m : MuN K C ns B H p ds) (s : Stp W B H B' H') (h : p ∉ W) : MuN K C ns B' H' p ds := by
  obtain ⟨hb, dx, vs, hp, hl, r⟩ := m
  exact ⟨s.nw p _ hb hp, dx, vs, s.fr p _ h hp, hl, r.mono s.ex⟩
theorem MuN.ne (m : MuN K C ns B H p ds) (h : H q = none) : p ≠ q := by
  obtain ⟨hb, dx, vs, hp, hl, r⟩ := m
  exact ne_of_none hp h
theorem MuN.kp (m : MuN K C ns B H q es) (e : Ex B B') (k : ∀ q, q ≠ p → B q = none → B' q = none) (n : q ≠ p) : MuN K C ns B' H q es := by
  obtain ⟨hb, dx, vs, hp, hl, r⟩ := m
  exact ⟨k q n hb, dx, vs, hp, hl, r.mono e⟩
theorem h_fldN (m : MuN K C ns B H p ds) (T : KI K mg nm C) (n : NoAttr K C f) (hd : ds[k]? = some d) (h : ∀ u, Rep K B u d → Q u H) (hk : ixS f ns = some k := by decide +kernel) : Fld K f (.ref p) H Q := by
  obtain ⟨hb, dx, vs, hp, hl, r⟩ := m
  obtain ⟨u, hu, ru⟩ := r.get hd
  exact ⟨p, C, dx, _, u, rfl, hp, T.c, n, lk_zip hk hu, h u ru⟩
theorem h_sfldE (h : tv σ H fun y H1 => ta σ H1 fun x H2 => ∃ a C dx fs, x = .ref a ∧ H2 a = some (.ins C dx fs) ∧ Cls K C ∧ NoAttr K C f ∧ fs.length < 1000 ∧ D'.nx σ (upd H2 a (.ins C dx (putF f y fs)))) : sFld K ta tv f D' σ H := h
theorem h_sfldN (w : Ex B H) (m : MuN K C ns B H p ds) (T : KI K mg nm C) (n : NoAttr K C f) (r : Rep K B v b) (h : ∀ H', Stp [p] B H B H' → MuN K C ns B H' p (ds.set k b) → D'.nx σ H') (hk : ixS f ns = some k := by decide +kernel) (hn : ns.length < 1000 := by decide) :
    ∃ a C dx fs, V.ref p = .ref a ∧ H a = some (.ins C dx fs) ∧ Cls K C ∧ NoAttr K C f ∧ fs.length < 1000 ∧ D'.nx σ (upd H a (.ins C dx (putF f v fs))) := by
  obtain ⟨hb, dx, vs, hp, hl, r0⟩ := m
  refine ⟨p, C, dx, _, rfl, hp, T.c, n, by rw [List.length_zip, hl, Nat.min_self]; exact hn, ?_⟩
  rw [put_zip hk hl]
  exact h _ (Stp.set w (by simp) hb hp) ⟨hb, dx, _, upd_same, by rw [List.length_set]; exact hl, r0.set r⟩
/-- C(..), where the instance may change -/
theorem h_makeN {us : List V} {E : XK} {sp : Sp} {R : Addr → Hp → Prop} (w : Ex B H) (hl : us.length = ns.length) (r : RepL K B us ds)
    (hsp : ∀ x dx H', H' x = some (.ins C dx []) → ∀ Q : VK, Q .non (upd H' x (.ins C dx (ns.zip us))) → sp (.ref x :: xs) H' Q E)
    (h : ∀ p B' H', Stp [] B H B' H' → H p = none → MuN K C ns B' H' p ds → R p H') :
    ∀ x dx, H x = none → H dx = none → dx ≠ x → sp (.ref x :: (xs ++ [])) (upd (upd H dx (.own x)) x (.ins C dx [])) (fun v H2 => v = .non ∧ R x H2) E := fun x dx hx hdx ne => by
  rw [List.append_nil]
  refine hsp x dx _ upd_same _ ⟨rfl, ?_⟩
  rw [upd_upd]
  have s1 : Stp [] B H (upd B dx (.own x)) (upd H dx (.own x)) := Stp.new w hdx
  have hp' : (upd H dx (.own x)) x = none := by rw [upd_ne ne.symm]; exact hx
  have s2 := Stp.newM (W := []) s1.ok hp' (o := .ins C dx (ns.zip us))
  exact h x _ _ (s1.trans s2) hx ⟨by rw [upd_ne ne.symm]; exact w.none hx, dx, us, upd_same, hl, r.mono s1.ex⟩
/-- a method of what may change -/
def AOne (C : Addr) (sp : Sp) : Addr → Sp → Prop := fun C' sp' => C' = C ∧ sp' = sp
theorem AOne.alt {P : Program} {wo : World} {base : Heap} {CX : CXT} {k : Nat} {sp : Sp} (L : MAlt P wo K mg base CX k m C sp) : ∀ C' sp', AOne C sp C' sp' → MAlt P wo K mg base CX k m C' sp' := by
  rintro _ _ ⟨rfl, rfl⟩
  exact L
theorem MuN.meth {sp : Sp} {t : TA} {e : XK} (mu : MuN K C ns B H p ds) (h : t σ H fun vs H2 => sp (.ref p :: vs) H2 Q e) (hm : ns.contains m = false := by decide +kernel) :
    ∃ a C' dx fs sp', V.ref p = .ref a ∧ H a = some (.ins C' dx fs) ∧ AOne C sp C' sp' ∧ fs.lookup m = none ∧ t σ H fun vs H2 => sp' (V.ref p :: vs) H2 Q e := by
  obtain ⟨hb, dx, vs, hp, hl, r⟩ := mu
  exact ⟨p, C, dx, _, sp, rfl, hp, ⟨rfl, rfl⟩, lk_none hm, h⟩
end
section
variable {xs : List V} {x y z u v w : V}
theorem tup5 (hl : xs.length = 5) (h0 : atI xs 0 = some x) (h1 : atI xs 1 = some y) (h2 : atI xs 2 = some z) (h3 : atI xs 3 = some u) (h4 : atI xs 4 = some v) : xs = [x, y, z, u, v] := by
  match xs, hl with
  | [a, b, c, d, e], _ =>
    cases h0; cases h1; cases h2; cases h3; cases h4
    rfl
theorem tup6 (hl : xs.length = 6) (h0 : atI xs 0 = some x) (h1 : atI xs 1 = some y) (h2 : atI xs 2 = some z) (h3 : atI xs 3 = some u) (h4 : atI xs 4 = some v) (h5 : atI xs 5 = some w) : xs = [x, y, z, u, v, w] := by
  match xs, hl with
  | [a, b, c, d, e, f], _ =>
    cases h0; cases h1; cases h2; cases h3; cases h4; cases h5
    rfl
end
/-! ### what was told is new, its lists may be written -/
mutual
def noL : D → Bool
  | .lst _ => false
  | .dic _ => false
  | .obj _ _ => false
  | .tup ds => noLs ds
  | _ => true
def noLs : List D → Bool
  | [] => true
  | d :: r => noL d && noLs r
end
mutual
inductive RepN (K : PySem.W.Frag) (B H : Hp) : V → D → Prop where
  | sc {v : V} {d : D} (r : Rep K B v d) (h : noL d = true) : RepN K B H v d
  | lst {p : Addr} {xs : List V} {ds : List D} (h : B p = some (.lst xs)) (n : H p = none) (r : RepNL K B H xs ds) : RepN K B H (.ref p) (.lst ds)
  | tup {p : Addr} {xs : List V} {ds : List D} (h : SqT K B p xs) (r : RepNL K B H xs ds) : RepN K B H (.ref p) (.tup ds)
inductive RepNL (K : PySem.W.Frag) (B H : Hp) : List V → List D → Prop where
  | nil : RepNL K B H [] []
  | cons {v : V} {d : D} {vs : List V} {ds : List D} (h : RepN K B H v d) (t : RepNL K B H vs ds) : RepNL K B H (v :: vs) (d :: ds)
end
section
variable {K : PySem.W.Frag} {B B' H H' H0 : Hp} {W : List Addr} {C p q dx : Addr} {ns : List Str} {ds es : List D} {d : D} {v : V} {Q : VK} {xs : List V}
mutual
theorem RepN.mono (e : Ex B B') : ∀ {v : V} {d : D}, RepN K B H v d → RepN K B' H v d
  | _, _, .sc r h => .sc (r.mono e) h
  | _, _, .lst h n r => .lst (e _ _ h) n (RepNL.mono e r)
  | _, _, .tup h r => .tup (e.t h) (RepNL.mono e r)
theorem RepNL.mono (e : Ex B B') : ∀ {vs : List V} {ds : List D}, RepNL K B H vs ds → RepNL K B' H vs ds
  | _, _, .nil => .nil
  | _, _, .cons h t => .cons (RepN.mono e h) (RepNL.mono e t)
end
mutual
theorem RepN.ago (e : ∀ p, H p = none → H' p = none) : ∀ {v : V} {d : D}, RepN K B H v d → RepN K B H' v d
  | _, _, .sc r h => .sc r h
  | _, _, .lst h n r => .lst h (e _ n) (RepNL.ago e r)
  | _, _, .tup h r => .tup h (RepNL.ago e r)
theorem RepNL.ago (e : ∀ p, H p = none → H' p = none) : ∀ {vs : List V} {ds : List D}, RepNL K B H vs ds → RepNL K B H' vs ds
  | _, _, .nil => .nil
  | _, _, .cons h t => .cons (RepN.ago e h) (RepNL.ago e t)
end
mutual
theorem RepN.rep : ∀ {v : V} {d : D}, RepN K B H v d → Rep K B v d
  | _, _, .sc r _ => r
  | _, _, .lst h _ r => .lst (SqL.of h) (RepNL.rep r)
  | _, _, .tup h r => .tup h (RepNL.rep r)
theorem RepNL.rep : ∀ {vs : List V} {ds : List D}, RepNL K B H vs ds → RepL K B vs ds
  | _, _, .nil => .nil
  | _, _, .cons h t => .cons (RepN.rep h) (RepNL.rep t)
end
theorem RepNL.of : ∀ {vs : List V} {ds : List D}, RepL K B vs ds → noLs ds = true → RepNL K B H vs ds
  | _, _, .nil, _ => .nil
  | _, _, .cons h t, e => by
    have e' : (noL _ && noLs _) = true := e
    rw [Bool.and_eq_true] at e'
    exact .cons (.sc h e'.1) (RepNL.of t e'.2)
theorem RepNL.get : ∀ {vs : List V} {ds : List D} {i : Nat} {d : D}, RepNL K B H vs ds → ds[i]? = some d → ∃ v, vs[i]? = some v ∧ RepN K B H v d
  | _, _, _, _, .nil, e => by simp at e
  | _, _, 0, _, .cons r _, e => by simp at e; subst e; exact ⟨_, rfl, r⟩
  | _, _, i + 1, x, .cons _ t, e => by
    obtain ⟨u, h1, h2⟩ := RepNL.get (i := i) (d := x) t (by simpa using e)
    exact ⟨u, by simpa using h1, h2⟩
theorem RepNL.length : ∀ {vs : List V} {ds : List D}, RepNL K B H vs ds → vs.length = ds.length
  | _, _, .nil => rfl
  | _, _, .cons _ t => congrArg Nat.succ (RepNL.length t)
theorem RepNL.at {vs : List V} {i : Int} (r : RepNL K B H vs ds) (h : atI ds i = some d) : ∃ v, atI vs i = some v ∧ RepN K B H v d := by
  unfold atI at h ⊢
  rw [r.length]
  cases e : ixN ds.length i with
  | none => rw [e] at h; cases h
  | some j => rw [e] at h; exact r.get h
theorem RepNL.snoc {b : D} (h : RepN K B H v b) : ∀ {vs : List V} {ds : List D}, RepNL K B H vs ds → RepNL K B H (vs ++ [v]) (ds ++ [b])
  | _, _, .nil => .cons h .nil
  | _, _, .cons g t => .cons g (RepNL.snoc h t)
theorem RepN.tupE (h : RepN K B H v (.tup ds)) (hn : noLs ds = false) : ∃ p xs, v = .ref p ∧ SqT K B p xs ∧ RepNL K B H xs ds := by
  cases h with
  | sc r h => rw [show noLs ds = true from h] at hn; exact nomatch hn
  | tup h r => exact ⟨_, _, rfl, h, r⟩
theorem RepN.lstE (h : RepN K B H v (.lst ds)) : ∃ p xs, v = .ref p ∧ B p = some (.lst xs) ∧ H p = none ∧ RepNL K B H xs ds := by
  cases h with
  | sc r h => exact nomatch h
  | lst h n r => exact ⟨_, _, rfl, h, n, r⟩
/-- back to what was known ahead -/
theorem Stp.back2 {B0 : Hp} (a : Stp W B H B' H') (e : Ex B0 B) : Stp W B0 H B0 H' := ⟨Ex.refl B0, e.trans (a.ex.trans a.ok), a.fr, a.al, fun _ _ h _ => h⟩
def RetN (K : PySem.W.Frag) (B H : Hp) (d : D) (Q : VK) : Prop := ∀ v B' H', Stp [] B H B' H' → RepN K B' H v d → Q v H'
def RetNI (K : PySem.W.Frag) (C : Addr) (ns : List Str) (p : Addr) (B H : Hp) (d : D) (ds : List D) (Q : VK) : Prop := ∀ v B' H', Stp [p] B H B' H' → MuN K C ns B' H' p ds → RepN K B' H v d → Q v H'
/-- a list of our own is kept as it is, and is known to be new -/
theorem Mu.keepN (m : Mu K B H p ds) (hs : noLs ds = true) (h0 : H0 p = none) : ∃ B', Ex B B' ∧ (∀ q, q ≠ p → B q = none → B' q = none) ∧ (∀ W B0 H0, Stp W B0 H0 B H → Ex B0 H0 → H0 p = none → Stp W B0 H0 B' H) ∧ Rep K B' (.ref p) (.lst ds) ∧ RepN K B' H0 (.ref p) (.lst ds) := by
  obtain ⟨hb, xs, hp, r⟩ := m
  exact ⟨L2.upd B p (.lst xs), Ex.new hb, fun q n e => by rw [upd_ne n]; exact e, fun W B0 H0 st w0 h0 => Stp.keep w0 st h0 hb hp, .lst (SqL.of upd_same) (r.mono (Ex.new hb)), .lst upd_same h0 (.of (r.mono (Ex.new hb)) hs)⟩
theorem h_newTN (w : Ex B H) (r : RepL K B xs ds) (rn : RepNL K B H0 xs ds) (h : ∀ p B' H', Stp [] B H B' H' → Rep K B' (.ref p) (.tup ds) → RepN K B' H0 (.ref p) (.tup ds) → Q (.ref p) H') (hn : xs.length ≤ sizeLine) : NewT xs H Q :=
  ⟨hn, fun p hp => h p _ _ (Stp.new w hp) (.tup (SqT.of upd_same) (r.mono (Ex.new (w.none hp)))) (.tup (SqT.of upd_same) (rn.mono (Ex.new (w.none hp))))⟩
end
end Y
namespace Y
open PySem PySem.Spec PyProof.Rows
open L2
/-- an __init__ that lays what it is handed, then constants -/
def spInitC (K : PySem.W.Frag) (ns : List Str) (cs : List V) : Sp := fun vs H Q _ => ∃ (C p dx : Addr) (us : List V), vs = .ref p :: us ∧ us.length + cs.length = ns.length ∧ H p = some (.ins C dx []) ∧ Cls K C ∧ LaysOk K C ns ∧ Q .non (upd H p (.ins C dx (ns.zip (us ++ cs))))
end Y

set_option Elab.async false
set_option linter.all false
set_option maxRecDepth 100000
set_option maxHeartbeats 4000000
/-! # a comprehension whose element may raise (out of a call) -/
namespace Y
open PySem PySem.Spec PyProof.Rows
open L2
section
variable {X : Cx}
theorem ns_slots {h h' : Heap} {C : Addr} {m : Str → Option Value} (n : h.Ns C m) (k : ∀ o, h.get? C = some o → (∀ vs, o.data ≠ .fields vs) → ∃ sl, h'.get? C = some { o with slots := sl }) : h'.Ns C m := by
  obtain ⟨o, es, ep, ho, hd, r⟩ := n
  obtain ⟨sl, e⟩ := k o ho fun vs q => by rw [hd] at q; cases q
  exact ⟨_, es, ep, e, hd, r⟩
theorem traced_but {h h' B B' : Heap} {a C : Addr} {Z : Obj → Prop} {fl : Value} {m : Str → Option Value} (t : HandSPX.TracedZ h B a Z fl) (n : h.Ns C m) (sb : ∀ b, b ≠ C → h'.get? b = h.get? b) (hB : ∀ b, B.get? b = none → B'.get? b = none) : HandSPX.TracedZ h' B' a Z fl := by
  obtain ⟨oe, vs, T, oT, ts, he, hz, hd, h1, hT, ne, ho, hdT, h3⟩ := t
  obtain ⟨o, es, ep, hC, hdC, _⟩ := n
  have a1 : a ≠ C := fun e => by
    rw [e, hC] at he; cases he
    rw [hdC] at hd; cases hd
  have a2 : T ≠ C := fun e => by
    rw [e, hC] at ho; cases ho
    rw [hdC] at hdT; cases hdT
  exact ⟨oe, vs, T, oT, ts, (sb a a1).trans he, hz, hd, h1, hB T hT, ne, (sb T a2).trans ho, hdT, h3⟩
/-- out of a call in the element: the block of names is let go, the exception is in the def's own air -/
theorem noted_call {E : XK} (tk : Takes X (fun cls d _ H => E cls d H)) (hs : X.stack = X.env :: X.outer) (hf : X.env.frame = some X.env.locals) {pins pins' : List (Addr × Obj)} {σ σ9 : L2.St} {H3 H9 : Hp} {s3 s9 s' : Shared} (I3 : Inv X pins σ H3 s3)
    {scope : Scope} {ce : Env} {fp : List Addr} {xe : Value → Shared → Prop} {pn : List (Addr × Obj)} (hcf : ce.frame = X.env.frame) (hCn : s3.heap.get? ce.locals = none) (hCs : ce.locals ∉ frs X.stack)
    (hfp : ∀ b ∈ fp, (b ∈ X.ex ∨ X.s_0.heap.objs.size ≤ b) ∧ b ≠ X.env.locals ∧ (∀ x c, X.env.cells.lookup x = some c → c ≠ b) ∧ ∀ p ∈ X.pn ++ pins, p.1 ≠ b)
    (I9 : Inv ((X.blk s3 H3 scope ce fp).tr pn xe) pins' σ9 H9 s9) {u : Value} (c : L2.CX X.prog X.w X.stack H9 s9 E u s') :
    notedBy (model X.prog X.w) X.A ce (CompFails (model X.prog X.w) X.A X.xe ce) u s' := by
  obtain ⟨a, B, H', cls, d, rfl, fl, hok, ub, na, os, ag, hE⟩ := c
  have hfr : X.A.frames = some (X.env :: X.outer) := by rw [I3.ok.frames, hs]
  obtain ⟨m, hn, _⟩ := I9.loc
  have hn : s9.heap.Ns ce.locals m := hn
  have free9 : H9 ce.locals = none := I9.free
  have b9 : Un (frs X.stack) fp H3 H9 s3.heap s9.heap := I9.base
  have os9 : s9.os = s3.os := I9.os
  show wpAny _ _ (noteFrame (.ref a) ce) _ _ s'
  rw [PySem.noteFrame_env _ hcf]
  have fl1 : HandSPX.FlyingZ B (X.env :: X.outer) a (Zc cls d) s'.heap := by rw [← hs]; exact fl
  refine HandSPX.looks_onZ Zc.steady hfr hf fl1 fun h1 hh up1 => ?_
  obtain ⟨k1, k2, k3, k4⟩ := hh
  have nB : B.get? ce.locals ≠ none ∧ s'.heap.Ns ce.locals m ∧ H' ce.locals = none := by
    obtain ⟨o, es, ep, ho, hd, r⟩ := hn
    have e := ub.keep _ o ho free9 hCs
    exact ⟨by rw [e]; simp, ⟨o, es, ep, fl.1 _ o e, hd, r⟩, ub.free _ o ho free9⟩
  have hn2 : h1.Ns ce.locals m := ns_slots nB.2.1 fun o e nf => up1 _ o e nf
  refine ⟨m, hn2, fun h2 m2 hn3 sb => ?_⟩
  obtain ⟨B', eB⟩ : ∃ B', B' = PySem.W.hideAll B [ce.locals] := ⟨_, rfl⟩
  have toB : ∀ b o, b ≠ ce.locals → B.get? b = some o → B'.get? b = some o := fun b o ne e => by
    rw [eB]; exact PySem.W.hideAll_get _ e (by simpa using ne)
  have ofB : ∀ b o, B'.get? b = some o → B.get? b = some o ∧ b ≠ ce.locals := fun b o e => by
    rw [eB] at e
    refine ⟨PySem.W.of_hideAll _ e, fun z => ?_⟩
    rw [z, PySem.W.hideAll_none _ (List.mem_singleton.mpr rfl)] at e
    cases e
  have noB : ∀ b, B.get? b = none → B'.get? b = none := fun b e => by
    cases q : B'.get? b with
    | none => rfl
    | some o => rw [(ofB b o q).1] at e; cases e
  have st2 : B'.StaysIn h2 := fun b o e => by
    obtain ⟨e1, ne⟩ := ofB b o e
    exact (sb.2 b ne).trans (k1 b o e1)
  have ff2 : h2.FunFrames B' (X.env :: X.outer) := funFrames_none (Heap.FunFrames.sameBut sb hn3 k3) fun L hL => noB L (k3.mem hL).1
  have tr2 := traced_but (B' := B') k4 hn2 sb.2 noB
  obtain ⟨oe, vs, T, oT, ts, he, hz, hd, h1', r2⟩ := id tr2
  unfold PySem.passOn
  refine wpAny_bind (wpAny_field he hd h1' ?_)
  rw [if_neg (show ¬ ((Value.ref T == Value.none) = true) from by simp), hcf, hf]
  refine wpAny_bind (HandSPX.setFlight_onZ (l := X.env :: X.outer) (L := X.env.locals) ⟨st2, noB a k2, ff2, tr2⟩ fun h3 hh3 up3 => ?_)
  refine wpAny_throw ?_
  refine tk _ _ ?_
  obtain ⟨G, g1, g2⟩ := restrict h3 fun b => (B'.get? b).isSome || decide (b ∈ frs X.stack)
  have st3 : B'.StaysIn h3 := hh3.1
  have gB : ∀ b o, B'.get? b = some o → G.get? b = some o := fun b o e => by
    rw [g1 b (by simp [e])]
    exact st3 b o e
  have gF : ∀ b, b ∈ frs X.stack → G.get? b = h3.get? b := fun b hb => g1 b (by simp [hb])
  have og : ∀ b o, G.get? b = some o → h3.get? b = some o ∧ ((B'.get? b).isSome = true ∨ b ∈ frs X.stack) := fun b o e => by
    cases q : ((B'.get? b).isSome || decide (b ∈ frs X.stack)) with
    | false => rw [g2 b q] at e; cases e
    | true =>
      rw [g1 b q] at e
      exact ⟨e, by simpa [Bool.or_eq_true] using q⟩
  have ne3 : ∀ b o, s3.heap.get? b = some o → b ≠ ce.locals := fun b o e z => by rw [z, hCn] at e; cases e
  have far : ∀ b o, s9.heap.get? b = some o → b ∈ frs X.stack → (∀ vs, o.data ≠ .fields vs) → ∃ sl, G.get? b = some { o with slots := sl } := fun b o e hb nf => by
    obtain ⟨sl, e1⟩ := ub.slot b o e hb
    obtain ⟨sl1, e2⟩ := up1 b _ e1 nf
    have e3 := (sb.2 b fun z => hCs (by rw [← z]; exact hb)).trans e2
    obtain ⟨sl2, e4⟩ := up3 b _ e3 nf
    exact ⟨sl2, by rw [gF b hb]; exact e4⟩
  have nfS : ∀ b ∈ frs X.stack, ∀ o, s3.heap.get? b = some o → ∀ vs, o.data ≠ .fields vs := fun b hb o e => by
    obtain ⟨_, o', e', hd⟩ := I3.stack.mem hb
    rw [e] at e'; cases e'
    exact hd
  refine ⟨a, B', { s' with heap := G }, pins, σ, H', cls, d, rfl, ?_, fun b o e hb => ?_, Heap.UpToSlots.of_keeps fun b o e => (og b o e).1, .inr (.inr (by rw [hs]; exact hh3)), na, rfl, ag, hE⟩
  · refine I3.call' (ch := fp) (os.trans os9) ⟨fun b o e n hb hx => ?_, fun b o e n hb hx => ?_, fun b o e n hx => ?_, fun b o e hx => ?_, fun b xs e => ub.tups b xs (b9.tups b xs e), fun b o xs e => ?_, fun b ps e => ?_⟩ ?_ ag hfp
    · exact gB b o (toB b o (ne3 b o e) (ub.keep b o (b9.keep b o e n hb hx) (b9.free b o e n hx) hb))
    · obtain ⟨sl, e1⟩ := b9.slot b o e n hb hx
      obtain ⟨sl2, e3⟩ := far b _ e1 hb (nfS b hb o e)
      exact ⟨sl2, e3⟩
    · obtain ⟨o1, e1⟩ := b9.there b o e hx
      exact ub.free b o1 e1 (b9.free b o e n hx)
    · obtain ⟨o1, e1⟩ := b9.there b o e hx
      by_cases hb : b ∈ frs X.stack
      · cases hH : H3 b with
        | none =>
          obtain ⟨sl, e2⟩ := b9.slot b o e hH hb hx
          obtain ⟨sl2, e3⟩ := far b _ e2 hb (nfS b hb o e)
          exact ⟨_, e3⟩
        | some w =>
          have z := I3.stkFree b hb
          rw [hH] at z; cases z
      · obtain ⟨o2, e2⟩ := ub.there b o1 e1 hb
        exact ⟨o2, gB b o2 (toB b o2 (ne3 b o e) e2)⟩
    · exact ub.frzs b o xs (b9.frzs b o xs e)
    · obtain ⟨m1, e1⟩ := b9.tbls b ps e
      obtain ⟨m2, e2⟩ := ub.tbls b _ e1
      exact ⟨m1 ++ m2, by rw [e2, Array.append_assoc]⟩
    · refine HOk.kept (h := B') (fun b o q => (hok b o q).stay (fun c u hc r => toB c u (fun z => ?_) r) (fun _ r => r) fun _ _ r => r) gB
      rcases hc with hc | hc
      · rw [hc] at z
        rw [z, nB.2.2] at q; cases q
      · rw [z, nB.2.2] at hc; cases hc
  · obtain ⟨e1, h⟩ := og b o e
    rcases h with h | h
    · obtain ⟨o', q⟩ := Option.isSome_iff_exists.mp h
      have z := st3 b o' q
      rw [e1] at z; cases z
      exact q
    · exact absurd h hb
/-- [elt for tg in iter if ..] as a value, where a call in elt may raise -/
theorem pe_lcX {E : XK} (tk : Takes X (fun cls d _ H => E cls d H)) (hst : X.stack = X.env :: X.outer) (hfr : X.env.frame = some X.env.locals) {elt tg iter : Expr} {ifs : List Expr} {scope : Scope} {own : List (Str × Nat)} {pos : Pos} {wi : TI} {g : TG} {tt : TT} {te : TE}
    (hc : X.calm = true) (hN : X.N.Nodup) (hi : PI X tg iter wi) (ok : BlkOk X.N X.env.scope scope own)
    (hg : ∀ (s : Shared) (H : Hp) (C : Addr) (cl : List (Str × Addr)) (fp : List Addr), PG (X.blk s H scope (compEnvC scope cl C X.env) fp) tg g) (ht : ∀ (s : Shared) (H : Hp) (C : Addr) (cl : List (Str × Addr)) (fp : List Addr), PTs (X.blk s H scope (compEnvC scope cl C X.env) fp) ifs tt)
    (he : ∀ (s : Shared) (H : Hp) (C : Addr) (cl : List (Str × Addr)) (fp : List Addr) (pn : List (Addr × Obj)) (xe : Value → Shared → Prop), (∀ σ, PassesAt (L2.CX X.prog X.w) ((X.blk s H scope (compEnvC scope cl C X.env) fp).tr pn xe) σ E) → PE ((X.blk s H scope (compEnvC scope cl C X.env) fp).tr pn xe) elt te)
    (hs : ∀ x, foldedSetIterable iter X.env x = pure x := by intro _; rfl) :
    PE X (.ListComp elt [⟨tg, iter, ifs, 0⟩] scope pos) (tLc wi g tt te (own.map (·.2))) := by
  refine ⟨fun pins s σ H Q I h => ?_⟩
  rw [eval_ListComp]
  have hfree : ∀ y ∈ scope.names, y.2 = .free → ∃ c, X.env.cells.lookup y.1 = some c := fun y hy e => by
    rcases ok.free y hy e with k | k
    · exact I.ok.has _ (.inl k)
    · exact I.ok.has _ (.inr k)
  refine comprehension_at (use := none) rfl hs (closure_ok hfree) ok.kind (fun y hy e => by rw [ok.uniq y hy, e]) (thn (hi.run pins s σ H _ I h) fun xv s1 hx => thn hx fun itv s2 h2 => ?_)
  obtain ⟨it, fp, tn, J, H2, rfl, I2, T, st2, f2, q⟩ := h2
  refine wpAny_newObj_type (newEnv_comp ?_) (by show 0 ≤ sizeLine; decide)
  obtain ⟨D, hD⟩ : ∃ D, D = s2.heap.objs.size := ⟨_, rfl⟩
  obtain ⟨W, ⟨m0, w0⟩, turn⟩ := q D (I2.hok.fresh (Nat.le_of_eq hD.symm))
  obtain ⟨s3, hs3⟩ : ∃ s3 : Shared, s3 = { s2 with heap := s2.heap.push { cls := .type "list", data := .seq ([] : List Value).toArray } } := ⟨_, rfl⟩
  obtain ⟨H3, hH3⟩ : ∃ H3 : Hp, H3 = upd H2 D (.lst []) := ⟨_, rfl⟩
  have h3 : s3.heap = s2.heap.push { cls := .type "list", data := .seq ([] : List Value).toArray } := by rw [hs3]
  have I3 : Inv X pins σ H3 s3 := by
    rw [hs3, hH3]
    refine I2.laid (t' := s2.toks) (fun b o e => Heap.get?_push_of_some _ e) (Nat.le_of_eq hD.symm) ⟨Nat.zero_le _, [], 0, .nil, ?_⟩
    rw [hD]
    exact Heap.get?_push_size _ rfl
  have f3 : ∀ b ∈ fp, FpOk X pins H3 b ∧ b < s3.heap.objs.size := fun b hb => by
    obtain ⟨o, e, _⟩ := T.obj _ _ st2 b hb
    have hlt := Heap.lt_size e
    refine ⟨⟨?_, (f2 b hb).2⟩, by rw [h3, Heap.size_push]; exact Nat.lt_succ_of_lt hlt⟩
    rw [hH3, upd_ne (by rw [hD]; exact Nat.ne_of_lt hlt)]
    exact (f2 b hb).1
  have st3 : tn 0 s3.heap := T.keep _ _ _ st2 fun b _ o e => by rw [h3]; exact Heap.get?_push_of_some _ e
  have I4 := block_start I3 ok hN f3
  obtain ⟨cl, hcl⟩ : ∃ cl, cl = cellsFrom (s3.heap.objs.size + 1) scope.names (cloFrom X.env.cells scope.names []) := ⟨_, rfl⟩
  obtain ⟨ce, hce⟩ : ∃ ce, ce = compEnvC scope cl s3.heap.objs.size X.env := ⟨_, rfl⟩
  obtain ⟨s4, hs4⟩ : ∃ s4 : Shared, s4 = { s3 with heap := pushCells (s3.heap.push { cls := .type "dict", data := .dict #[] }) scope.names } := ⟨_, rfl⟩
  have pg := hg s3 H3 s3.heap.objs.size cl fp
  have pt := ht s3 H3 s3.heap.objs.size cl fp
  have pe := he s3 H3 s3.heap.objs.size cl fp
  rw [← hcl, ← hce, ← hs4] at I4
  rw [← hce] at pg pt pe
  have cL : ce.locals = s3.heap.objs.size := by rw [hce]; rfl
  have cF : ce.frame = X.env.frame := by rw [hce]; rfl
  have hCn : s3.heap.get? ce.locals = none := by
    cases e : s3.heap.get? ce.locals with
    | none => rfl
    | some o =>
      have := Heap.lt_size e
      rw [cL] at this
      exact absurd this (Nat.lt_irrefl _)
  have hCs : ce.locals ∉ frs X.stack := fun z => by
    obtain ⟨_, o, e, _⟩ := I3.stack.mem z
    rw [hCn] at e; cases e
  have fpX : ∀ b ∈ fp, (b ∈ X.ex ∨ X.s_0.heap.objs.size ≤ b) ∧ b ≠ X.env.locals ∧ (∀ x c, X.env.cells.lookup x = some c → c ≠ b) ∧ ∀ p ∈ X.pn ++ pins, p.1 ≠ b := fun b hb => ⟨(f3 b hb).1.2.2.2.1, (f3 b hb).1.2.1, (f3 b hb).1.2.2.2.2.1, (f3 b hb).1.2.2.2.2.2⟩
  suffices loop : codeAny (model X.prog X.w) X.A (.compLoop (.ListComp elt [⟨tg, iter, ifs, 0⟩] scope pos) 0 (.ref it) (.ref D) ce) (compEnds (model X.prog X.w) X.A X.xe none (fun v s' => EP X pins σ Q v s') (.ref D) ce) s4 by
    have st4 : tn 0 s4.heap := T.keep _ _ _ st3 fun b _ o e => by rw [hs4]; exact pushCells_keeps _ _ _ _ (Heap.get?_push_of_some _ e)
    have fin := codeAny_compStart_list loop (T.self X.A 0 _ _ _ st4 loop)
    rw [hD, hce, hcl, hs4, hs3] at fin
    exact fin
  have st4 : tn 0 s4.heap := T.keep _ _ _ st3 fun b _ o e => by rw [hs4]; exact pushCells_keeps _ _ _ _ (Heap.get?_push_of_some _ e)
  have stat : ∀ {σ' : L2.St} {H' : Hp} {s' : Shared}, Inv (X.blk s3 H3 scope ce fp) [] σ' H' s' → (∀ b ∈ fp, H' b = none) → ∀ b ∈ fp, FpOk (X.blk s3 H3 scope ce fp) [] H' b := fun {σ' H' s'} I' hn b hb =>
    ⟨hn b hb, (I'.ok.exf b hb).1, I'.ok.exfs b hb, .inl hb, fun x c e => (I'.ok.exf b hb).2 x c e, fun p hp => absurd (show p ∈ ([] : List (Addr × Obj)) ++ [] from hp) (by simp)⟩
  rw [← hH3] at w0
  refine compLoop_any (fun n s' => ∃ i H', Inv (X.blk s3 H3 scope ce fp) [] (wipe σ (own.map (·.2))) H' s' ∧ tn i s'.heap ∧ (∀ b ∈ fp, H' b = none) ∧ W i n H') ?_ m0 ⟨0, H3, I4, st4, fun b hb => (f3 b hb).1.1, w0⟩
  rintro n s5 ⟨i, H5, I5, st5, n5, w5⟩
  rcases turn i n H5 w5 with ⟨stop, qq⟩ | ⟨go, Nx, hNx, step⟩
  · refine thnF (T.done (X.blk s3 H3 scope ce fp) rfl rfl rfl hc i [] s5 _ H5 (fun _ _ => False) I5 (stat I5 n5) st5 stop) fun r s6 ⟨hr, I6⟩ => ?_
    subst hr
    have I7 : Inv X pins σ H5 s6 := I3.call' (ch := fp) I6.os I6.base I6.hok I6.bare fpX
    obtain ⟨m, hn, _⟩ := I6.loc
    have nC : H5 ce.locals = none := I6.free
    have hn : s6.heap.Ns ce.locals m := hn
    obtain ⟨f0, f1, f2, f3, f4, f5⟩ := (I3.fpOk (H' := H5) (b := ce.locals) (Nat.le_of_eq cL.symm) nC : FpOk X pins H5 ce.locals)
    exact ⟨m, hn, fun h'' sb => ⟨.ref D, H5, I7.turned (t' := s6.toks) (fun b o hb e => (sb.2 b hb).trans e) f0 f1 f3 f4 f5, rfl, qq⟩⟩
  · refine thnF (T.item (X.blk s3 H3 scope ce fp) rfl rfl rfl hc i [] s5 _ H5 (fun _ _ => False) I5 (stat I5 n5) st5 go) fun r s6 ⟨u, hr, h6⟩ => ?_
    subst hr
    refine thnF h6 fun _ s7 ⟨x, H7, I7, r7, y7, st7, n7⟩ => ?_
    have I7' := I7.pinned (stat I7 n7) (T.obj _ _ st7)
    refine thnF (pg.run _ s7 _ H7 x u _ I7' r7 (step x H7 y7)) fun _ s8 ⟨σ8, H8, I8, hw8, q8⟩ => ?_
    refine thnF (pt.run _ s8 σ8 H8 _ I8 q8) fun b s9 ⟨H9, I9, q9⟩ => ?_
    have back : ∀ {s' : Shared} {H' : Hp}, Inv (X.blk s3 H3 scope ce fp) ([] ++ pinsAt fp s7.heap) σ8 H' s' → Nx H' → ∃ m, m < n ∧ ∃ i H', Inv (X.blk s3 H3 scope ce fp) [] (wipe σ (own.map (·.2))) H' s' ∧ tn i s'.heap ∧ (∀ b ∈ fp, H' b = none) ∧ W i m H' := fun {s' H'} I' nx => by
      obtain ⟨m', hm, w'⟩ := hNx H' nx
      have pin' : ∀ b ∈ fp, ∀ o, s7.heap.get? b = some o → s'.heap.get? b = some o ∧ H' b = none := fun b hb o e =>
        let z := I'.pin (b, o) (List.mem_append_right _ (List.mem_append_right _ (mem_pinsAt hb e)))
        ⟨z.1, z.2.1⟩
      refine ⟨m', hm, i + 1, H', (I'.unpinned (pins := [])).weak (by rw [← hw8, wipe_length]) (fun j v e => ?_), T.keep _ _ _ st7 fun b hb o e => (pin' b hb o e).1, fun b hb => ?_, w'⟩
      · rw [← hw8] at e
        exact (wipe_some e).1
      · obtain ⟨o, e, _⟩ := T.obj _ _ st7 b hb
        exact (pin' b hb o e).2
    cases b with
    | false =>
      simp only [Bool.false_eq_true, if_false] at q9 ⊢
      exact back I9 q9
    | true =>
      simp only [if_true] at q9 ⊢
      have okB := I9.ok
      have pe' := pe ((X.blk s3 H3 scope ce fp).pn ++ ([] ++ pinsAt fp s7.heap)) (notedBy (model X.prog X.w) X.A ce fun e s' => compEnds (model X.prog X.w) X.A X.xe none (fun v s' => EP X pins σ Q v s') (.ref D) ce (.error e) s')
        fun σ' pins' H' s' e s'' I' c' => noted_call tk hst hfr I3 cF hCn hCs fpX I' c'
      refine wpAny_mono (pe'.run [] s9 σ8 H9 _ (I9.toTry _) q9) ?_ fun _ _ z => z
      rintro z s10 ⟨yv, H10, I10, r10, acc, hD10, hz10, nx⟩
      exact app_ok (X := X.blk s3 H3 scope ce fp) (I10.ofTry okB) hD10 hz10 r10 fun s11 I11 => back I11 nx
end
end Y

set_option Elab.async false
set_option linter.all false
set_option maxRecDepth 100000
set_option maxHeartbeats 4000000
namespace A
open PySem PySem.Spec PyProof.Rows L2 Y
open Y.Enc (enc)
abbrev top (i : Nat) : Stmt := PySem.Challenge.pw_lanescroll_k43_indexes_and_their_bodies.main.body.getD i (.Pass ⟨0, 0, 0, 0⟩)
def isWhole (d : D) (lo hi : Int) : Bool := match d with
  | .int i => decide (lo ≤ i) && decide (i ≤ hi)
  | _ => false
def m_is_whole (d : D) (lo hi : Int) : Res Bool := .ok (isWhole d lo hi)
/-! ### is_whole -/
def sp_is_whole (K : PySem.W.Frag) : Sp := fun vs H Q _ => ∃ (B : Hp) (v_thing : V) (a_thing : D) (a_low : Int) (a_high : Int), Ex B H ∧ vs = [v_thing, .int a_low, .int a_high] ∧ Rep K B v_thing (enc a_thing) ∧ Post (m_is_whole a_thing a_low a_high) (fun r => Ret K [] B H (enc r) Q) (fun _ => False)
abbrev s_is_whole : Stmt := top 8
theorem sc_is_whole : FnScope ["thing", "low", "high"] ["thing", "low", "high"] (defScope s_is_whole) := ⟨rfl, rfl, rfl, by decide +kernel, rfl, by decide +kernel, by decide +kernel⟩
/-! ### is_bytes -/
def m_is_bytes (a_thing : D) : Res Bool :=
  (if (isA "list" a_thing) = true then (asL a_thing).bind fun l1 => (compR (l1) (() : Unit) (fun x11 (a15 : Unit) => (m_is_whole x11 0 255).bind fun x27 => .ok (some x27, ()))).bind <| un2 fun acc14 a15 => .ok (acc14.all id) else .ok false)
def sp_is_bytes (K : PySem.W.Frag) : Sp := fun vs H Q _ => ∃ (B : Hp) (v_thing : V) (a_thing : D), Ex B H ∧ vs = [v_thing] ∧ Rep K B v_thing (enc a_thing) ∧ Post (m_is_bytes a_thing) (fun r => Ret K [] B H (enc r) Q) (fun _ => False)
abbrev s_is_bytes : Stmt := top 9
theorem sc_is_bytes : FnScope ["thing", "byte"] ["thing"] (defScope s_is_bytes) := ⟨rfl, rfl, rfl, by decide +kernel, rfl, by decide +kernel, by decide +kernel⟩
/-! ### written -/
def m_written (a_number : Int) : Res (List Int) :=
  ((m_is_whole (enc (a_number : Int)) 0 1000000000000000000000000000000000000000000000000000000000000).noErr).bind fun x1 => (if x1 = true then lt ((a_number / 128) : Int) fun x13 => (whileR (x13.natAbs + 1) ((x13, ([(a_number % 128)] : List Int)) : Int × (List Int)) (fun (a23 : Int × (List Int)) => (if (decide (0 < a23.1)) = true then guardR (a23.2.length < 1000000) <| lt ((a23.1 / 128) : Int) fun x29 => .ok (.nx (x29, (a23.2 ++ [(128 + (a23.1 % 128))]))) else .ok (.bk (a23.1, a23.2))))).bind (afterR fun a30 => .ok (a30.2.reverse)) else .err ⟨"NoNumber", []⟩)
def sp_written (K : PySem.W.Frag) (mg : Str → Option Value) : Sp := fun vs H Q E => ∃ (B : Hp) (a_number : Int), Ex B H ∧ vs = [.int a_number] ∧ Post (m_written a_number) (fun r => RetF K [] B H (r.map enc) Q) (fun e => Rai mg [] B H e E)
abbrev s_written : Stmt := top 12
theorem sc_written : FnScope ["number", "found"] ["number"] (defScope s_written) := ⟨rfl, rfl, rfl, by decide +kernel, rfl, by decide +kernel, by decide +kernel⟩
/-! ### number_at -/
def m_number_at (a_row : (List Int)) (a_at : Int) : Res (Option (Tp2 Int Int)) :=
  guardR (okEq (enc (cutL a_row (some a_at) (some (a_at + 1)))) (enc ([128] : List Int))) <| (if (eqD (enc (cutL a_row (some a_at) (some (a_at + 1)))) (enc ([128] : List Int))) = true then .ok none else (whileR (a_row.length + 1) ((0, a_at) : Int × Int) (fun (a24 : Int × Int) => (if (decide (a24.2 < (a_row.length : Int))) = true then (ixR a_row a24.2).bind fun x36 => lt (((a24.1 * 128) + (x36 % 128)) : Int) fun x40 => lt ((a24.2 + 1) : Int) fun x41 => (if (decide (1000000000000000000000000000000000000000000000000000000000000 < x40)) = true then .ok (.rt none) else (ixR a_row (x41 - 1)).bind fun x46 => (if (decide (x46 < 128)) = true then .ok (.rt (some (⟨x40, x41⟩ : (Tp2 Int Int)))) else .ok (.nx (x40, x41)))) else .ok (.bk (a24.1, a24.2))))).bind (afterR fun a55 => .ok none))
def sp_number_at (K : PySem.W.Frag) : Sp := fun vs H Q _ => ∃ (B : Hp) (v_row : V) (a_row : (List Int)) (a_at : Int), Ex B H ∧ vs = [v_row, .int a_at] ∧ Rep K B v_row (enc a_row) ∧ Post (m_number_at a_row a_at) (fun r => Ret K [] B H (enc r) Q) (fun _ => False)
abbrev s_number_at : Stmt := top 13
theorem sc_number_at : FnScope ["row", "at", "number"] ["row", "at"] (defScope s_number_at) := ⟨rfl, rfl, rfl, by decide +kernel, rfl, by decide +kernel, by decide +kernel⟩
/-! ### all_written -/
def m_all_written (a_numbers : (List Int)) : Res (List Int) :=
  (forR (a_numbers) (([] : List Int) : (List Int)) (fun x19 (a18 : (List Int)) => ((m_written x19).noErr).bind fun x26 => guardR (a18.length + x26.length ≤ 1000000) <| .ok (.nx (a18 ++ x26)))).bind (afterR fun a41 => .ok a41)
def sp_all_written (K : PySem.W.Frag) : Sp := fun vs H Q _ => ∃ (B : Hp) (v_numbers : V) (a_numbers : (List Int)), Ex B H ∧ vs = [v_numbers] ∧ Bor K B H [] v_numbers (a_numbers.map enc) ∧ Post (m_all_written a_numbers) (fun r => RetF K [] B H (r.map enc) Q) (fun _ => False)
abbrev s_all_written : Stmt := top 15
theorem sc_all_written : FnScope ["numbers", "found", "number"] ["numbers"] (defScope s_all_written) := ⟨rfl, rfl, rfl, by decide +kernel, rfl, by decide +kernel, by decide +kernel⟩
/-! ### is_index_row -/
def m_is_index_row (a_thing : D) : Res Bool :=
  (if (isA "tuple" a_thing) = true then (asT a_thing).bind fun l1 => (if (!decide ((l1.length : Int) = 6)) = true then .ok false else (asT a_thing).bind fun l8 => guardR (l8.length = 6) <| (ixR l8 0).bind fun x16 => (ixR l8 1).bind fun x20 => (ixR l8 2).bind fun x24 => (ixR l8 3).bind fun x28 => (ixR l8 4).bind fun x32 => (ixR l8 5).bind fun x36 => (m_is_whole x16 0 7).bind fun x40 => (if x40 = true then (m_is_whole x20 0 199).bind fun x46 => (if x46 = true then (m_is_whole x24 1 200).bind fun x52 => (if x52 = true then (m_is_whole x28 0 1000000000).bind fun x58 => (if x58 = true then (m_is_whole x32 1 (2 * 1000000000)).bind fun x64 => (if x64 = true then (m_is_whole x36 0 1000000).bind fun x70 => .ok x70 else .ok false) else .ok false) else .ok false) else .ok false) else .ok false)) else .ok false)
def sp_is_index_row (K : PySem.W.Frag) : Sp := fun vs H Q _ => ∃ (B : Hp) (v_thing : V) (a_thing : D), Ex B H ∧ vs = [v_thing] ∧ Rep K B v_thing (enc a_thing) ∧ Post (m_is_index_row a_thing) (fun r => Ret K [] B H (enc r) Q) (fun _ => False)
abbrev s_is_index_row : Stmt := top 16
theorem sc_is_index_row : FnScope ["thing", "lane", "first", "many", "low", "high", "place"] ["thing"] (defScope s_is_index_row) := ⟨rfl, rfl, rfl, by decide +kernel, rfl, by decide +kernel, by decide +kernel⟩
/-! ### is_index -/
def m_is_index (a_thing : D) : Res Bool :=
  (if (isA "tuple" a_thing) = true then (asT a_thing).bind fun l1 => (if (!decide ((l1.length : Int) = 2)) = true then .ok false else (asT a_thing).bind fun l8 => (ixR l8 0).bind fun x15 => (m_is_whole x15 0 1000000000).bind fun x19 => (if x19 = true then (asT a_thing).bind fun l25 => (ixR l25 1).bind fun x32 => (if (isA "list" x32) = true then (asT a_thing).bind fun l36 => (ixR l36 1).bind fun x43 => (asL x43).bind fun l47 => (if (decide (1600 < (l47.length : Int))) = true then .ok false else (asT a_thing).bind fun l54 => (ixR l54 1).bind fun x61 => (asL x61).bind fun l65 => (compR (l65) (() : Unit) (fun x75 (a79 : Unit) => (m_is_index_row x75).bind fun x91 => .ok (some x91, ()))).bind <| un2 fun acc78 a79 => .ok (acc78.all id)) else .ok false) else .ok false)) else .ok false)
def sp_is_index (K : PySem.W.Frag) : Sp := fun vs H Q _ => ∃ (B : Hp) (v_thing : V) (a_thing : D), Ex B H ∧ vs = [v_thing] ∧ Rep K B v_thing (enc a_thing) ∧ Post (m_is_index a_thing) (fun r => Ret K [] B H (enc r) Q) (fun _ => False)
abbrev s_is_index : Stmt := top 17
theorem sc_is_index : FnScope ["thing", "row"] ["thing"] (defScope s_is_index) := ⟨rfl, rfl, rfl, by decide +kernel, rfl, by decide +kernel, by decide +kernel⟩
/-! ### index_body -/
def m_index_body (a_index : D) : Res (List Int) :=
  ((m_is_index a_index).noErr).bind fun x1 => (if x1 = true then (asT a_index).bind fun l7 => (ixR l7 0).bind fun x14 => (asT a_index).bind fun l18 => (ixR l18 1).bind fun x25 => (asL x25).bind fun l29 => (asI x14).bind fun i36 => (asT a_index).bind fun l45 => (ixR l45 1).bind fun x52 => (asL x52).bind fun l56 => (forR (l56) (([i36, (l29.length : Int)] : List Int) : (List Int)) (fun x71 (a70 : (List Int)) => (asIs x71).bind fun l78 => guardR (a70.length + l78.length ≤ 1000000) <| .ok (.nx (a70 ++ l78)))).bind (afterR fun a96 => ((m_all_written a96).noErr).bind fun x101 => .ok x101) else .err ⟨"NoBody", []⟩)
def sp_index_body (K : PySem.W.Frag) (mg : Str → Option Value) : Sp := fun vs H Q E => ∃ (B : Hp) (v_index : V) (a_index : D), Ex B H ∧ vs = [v_index] ∧ Rep K B v_index (enc a_index) ∧ Post (m_index_body a_index) (fun r => RetF K [] B H (r.map enc) Q) (fun e => Rai mg [] B H e E)
abbrev s_index_body : Stmt := top 18
theorem sc_index_body : FnScope ["index", "numbers", "row"] ["index"] (defScope s_index_body) := ⟨rfl, rfl, rfl, by decide +kernel, rfl, by decide +kernel, by decide +kernel⟩
/-! ### Numbers__number -/
def m_Numbers__number (a_self : (List D)) (a_low : Int) (a_high : Int) : Res (Int × (List D)) :=
  (nthR a_self 0).bind fun x1 => (asD (List Int) x1).bind fun x5 => (nthR a_self 1).bind fun x8 => (asI x8).bind fun i12 => ((m_number_at x5 i12).noErr).bind fun x15 => (if (isNonD (enc x15)) = true then .err ⟨"NoBody", []⟩ else (someR x15).bind fun x21 => (if (decide (a_low ≤ x21.a)) = true then (if (decide (x21.a ≤ a_high)) = true then (someR x15).bind fun x30 => (someR x15).bind fun x41 => .ok (x41.a, (List.set a_self 1 (enc (x30.b : Int)))) else .err ⟨"NoBody", []⟩) else .err ⟨"NoBody", []⟩))
def sp_Numbers__number (K : PySem.W.Frag) (mg : Str → Option Value) (C_Numbers : Addr) : Sp := fun vs H Q E => ∃ (B : Hp) (p_self : Addr) (a_self : (List D)) (a_low : Int) (a_high : Int), Ex B H ∧ vs = [.ref p_self, .int a_low, .int a_high] ∧ MuN K C_Numbers ["row", "at"] B H p_self a_self ∧ Post (m_Numbers__number a_self a_low a_high) (fun r => RetMI K C_Numbers ["row", "at"] p_self B H (enc r.1) r.2 Q) (fun e => Rai mg [p_self] B H e E)
abbrev s_Numbers__number : Stmt := inClass (top 19) 1
theorem sc_Numbers__number : FnScope ["self", "low", "high", "found"] ["self", "low", "high"] (defScope s_Numbers__number) := ⟨rfl, rfl, rfl, by decide +kernel, rfl, by decide +kernel, by decide +kernel⟩
/-! ### index_row_in -/
def m_index_row_in (a_numbers : (List D)) : Res (D × (List D)) :=
  (compR (rngI 0 6) (a_numbers : (List D)) (fun x5 (a9 : (List D)) => (m_Numbers__number a9 0 (2 * 1000000000)).bind fun x22 => .ok (some x22.1, x22.2))).bind <| un2 fun acc8 a9 => .ok ((.tup (acc8.map enc) : D), a9)
def sp_index_row_in (K : PySem.W.Frag) (mg : Str → Option Value) (C_Numbers : Addr) : Sp := fun vs H Q E => ∃ (B : Hp) (p_numbers : Addr) (a_numbers : (List D)), Ex B H ∧ vs = [.ref p_numbers] ∧ MuN K C_Numbers ["row", "at"] B H p_numbers a_numbers ∧ Post (m_index_row_in a_numbers) (fun r => RetMI K C_Numbers ["row", "at"] p_numbers B H (enc r.1) r.2 Q) (fun e => Rai mg [p_numbers] B H e E)
abbrev s_index_row_in : Stmt := top 20
theorem sc_index_row_in : FnScope ["numbers", "k"] ["numbers"] (defScope s_index_row_in) := ⟨rfl, rfl, rfl, by decide +kernel, rfl, by decide +kernel, by decide +kernel⟩
/-! ### index_in -/
def m_index_in (a_numbers : (List D)) : Res ((Tp2 Int (List D)) × (List D)) :=
  (m_Numbers__number a_numbers 0 1000000000).bind fun x1 => (m_Numbers__number x1.2 0 1600).bind fun x8 => guardR (-(2 ^ 62) ≤ (x8.1 : Int)) <| (compR (rngI 0 x8.1) (x8.2 : (List D)) (fun x19 (a23 : (List D)) => (m_index_row_in a23).bind fun x36 => .ok (some x36.1, x36.2))).bind <| un2 fun acc22 a23 => guardR (noLs (acc22.map enc) = true) <| .ok ((⟨x1.1, acc22⟩ : (Tp2 Int (List D))), a23)
def sp_index_in (K : PySem.W.Frag) (mg : Str → Option Value) (C_Numbers : Addr) : Sp := fun vs H Q E => ∃ (B : Hp) (p_numbers : Addr) (a_numbers : (List D)), Ex B H ∧ vs = [.ref p_numbers] ∧ MuN K C_Numbers ["row", "at"] B H p_numbers a_numbers ∧ Post (m_index_in a_numbers) (fun r => RetNI K C_Numbers ["row", "at"] p_numbers B H (enc r.1) r.2 Q) (fun e => Rai mg [p_numbers] B H e E)
abbrev s_index_in : Stmt := top 21
theorem sc_index_in : FnScope ["numbers", "seal", "k"] ["numbers"] (defScope s_index_in) := ⟨rfl, rfl, rfl, by decide +kernel, rfl, by decide +kernel, by decide +kernel⟩
/-! ### Numbers____init__ -/
abbrev s_Numbers____init__ : Stmt := inClass (top 19) 0
theorem sc_Numbers____init__ : FnScope ["self", "row"] ["self", "row"] (defScope s_Numbers____init__) := ⟨rfl, rfl, rfl, by decide +kernel, rfl, by decide +kernel, by decide +kernel⟩
/-! ### read_as__index_in__index_body -/
def m_read_as__index_in__index_body (a_body : D) : Res (Tp2 Int (List D)) :=
  ((m_is_bytes a_body).noErr).bind fun x1 => (if x1 = true then (asD (List Int) a_body).bind fun x7 => (m_index_in ([enc (x7 : (List Int)), .int 0] : List D)).bind fun x17 => (m_index_body (enc x17.1)).bind fun x26 => guardR (okEq (enc x26) a_body) <| (if (!(eqD (enc x26) a_body)) = true then .err ⟨"NoBody", []⟩ else .ok x17.1) else .err ⟨"NoBody", []⟩)
def sp_read_as__index_in__index_body (K : PySem.W.Frag) (mg : Str → Option Value) (f_index_in : Addr) (f_index_body : Addr) : Sp := fun vs H Q E => ∃ (B : Hp) (v_body : V) (a_body : D), Ex B H ∧ vs = [v_body, .ref f_index_in, .ref f_index_body] ∧ Rep K B v_body (enc a_body) ∧ Post (m_read_as__index_in__index_body a_body) (fun r => RetN K B H (enc r) Q) (fun e => Rai mg [] B H e E)
abbrev s_read_as__index_in__index_body : Stmt := top 22
theorem sc_read_as__index_in__index_body : FnScope ["body", "thing_in", "body_of", "thing"] ["body", "thing_in", "body_of"] (defScope s_read_as__index_in__index_body) := ⟨rfl, rfl, rfl, by decide +kernel, rfl, by decide +kernel, by decide +kernel⟩
/-! ### read_index -/
def m_read_index (a_body : D) : Res (Tp2 Int (List D)) :=
  (m_read_as__index_in__index_body a_body).bind fun x1 => .ok x1
def sp_read_index (K : PySem.W.Frag) (mg : Str → Option Value) : Sp := fun vs H Q E => ∃ (B : Hp) (v_body : V) (a_body : D), Ex B H ∧ vs = [v_body] ∧ Rep K B v_body (enc a_body) ∧ Post (m_read_index a_body) (fun r => RetN K B H (enc r) Q) (fun e => Rai mg [] B H e E)
abbrev s_read_index : Stmt := top 23
theorem sc_read_index : FnScope ["body"] ["body"] (defScope s_read_index) := ⟨rfl, rfl, rfl, by decide +kernel, rfl, by decide +kernel, by decide +kernel⟩
/-! ### _law_cell_at -/
def l_cell_at (a_script : (List Int)) (a_k : Int) : Res Int :=
  (if (decide (a_k < (a_script.length : Int))) = true then (ixR a_script a_k).bind fun x9 => .ok x9 else .ok 0)
def sp__law_cell_at (K : PySem.W.Frag) : Sp := fun vs H Q _ => ∃ (B : Hp) (v_script : V) (a_script : (List Int)) (a_k : Int), Ex B H ∧ vs = [v_script, .int a_k] ∧ Bor K B H [] v_script (a_script.map enc) ∧ Post (l_cell_at a_script a_k) (fun r => Ret K [] B H (enc r) Q) (fun _ => False)
abbrev s__law_cell_at : Stmt := top 25
theorem sc__law_cell_at : FnScope ["_law_script", "_law_k"] ["_law_script", "_law_k"] (defScope s__law_cell_at) := ⟨rfl, rfl, rfl, by decide +kernel, rfl, by decide +kernel, by decide +kernel⟩
/-! ### _law_digit -/
def l_digit (a_state : (List Int)) (a_base : Int) : Res (Int × (List Int)) :=
  ((if (decide ((a_state.length : Int) = 1)) = true then (ixR a_state 0).bind fun x12 => guardR (a_state.length + ([(x12 % 2147483647), 0] : List Int).length ≤ 1000000) <| .ok (a_state ++ ([(x12 % 2147483647), 0] : List Int)) else .ok a_state) : Res ((List Int))).bind fun a26 => (ixR a26 0).bind fun x34 => (if (decide (a_base ≤ x34)) = true then (ixR a26 0).bind fun x42 => guardR (0 < a_base) <| lt ((x42 % a_base) : Int) fun x46 => (ixR a26 0).bind fun x51 => guardR (CDivW x51 a_base) <| (setR a26 0 (x51 / a_base)).bind fun x55 => .ok (x46, x55) else (ixR a26 2).bind fun x64 => (setR a26 2 (x64 + 1)).bind fun x68 => (ixR x68 1).bind fun x77 => (ixR x68 2).bind fun x85 => lt (((((x77 + (7919 * x85)) + 1) * 48271) % 2147483647) : Int) fun x89 => guardR (CMulW x89 ((x89 / 1009) + 69621)) <| lt (((x89 * ((x89 / 1009) + 69621)) % 2147483647) : Int) fun x90 => guardR (CMulW x90 ((x90 / 2003) + 40692)) <| guardR (0 < a_base) <| .ok ((((x90 * ((x90 / 2003) + 40692)) % 2147483399) % a_base), x68))
def sp__law_digit (K : PySem.W.Frag) : Sp := fun vs H Q _ => ∃ (B : Hp) (p_state : Addr) (a_state : (List Int)) (a_base : Int), Ex B H ∧ vs = [.ref p_state, .int a_base] ∧ Mu K B H p_state (a_state.map enc) ∧ Post (l_digit a_state a_base) (fun r => RetM K p_state B H (enc r.1) (r.2.map enc) Q) (fun _ => False)
abbrev s__law_digit : Stmt := top 26
theorem sc__law_digit : FnScope ["_law_state", "_law_base", "_law_found", "_law_number"] ["_law_state", "_law_base"] (defScope s__law_digit) := ⟨rfl, rfl, rfl, by decide +kernel, rfl, by decide +kernel, by decide +kernel⟩
/-! ### _law_figures -/
def l_figures (a_number : Int) : Res (List Int) :=
  (whileR (a_number.natAbs + 1) ((a_number, ([(a_number % 128)] : List Int)) : Int × (List Int)) (fun (a16 : Int × (List Int)) => (if (decide (128 ≤ a16.1)) = true then lt ((a16.1 / 128) : Int) fun x23 => guardR (([(128 + (x23 % 128))] : List Int).length + a16.2.length ≤ 1000000) <| .ok (.nx (x23, (([(128 + (x23 % 128))] : List Int) ++ a16.2))) else .ok (.bk (a16.1, a16.2))))).bind (afterR fun a45 => .ok a45.2)
def sp__law_figures (K : PySem.W.Frag) : Sp := fun vs H Q _ => ∃ (B : Hp) (a_number : Int), Ex B H ∧ vs = [.int a_number] ∧ Post (l_figures a_number) (fun r => RetF K [] B H (r.map enc) Q) (fun _ => False)
abbrev s__law_figures : Stmt := top 27
theorem sc__law_figures : FnScope ["_law_number", "_law_found"] ["_law_number"] (defScope s__law_figures) := ⟨rfl, rfl, rfl, by decide +kernel, rfl, by decide +kernel, by decide +kernel⟩
/-! ### _law_index_numbers -/
def l_index_numbers (a_index_here : (Tp2 Int (List (Tp6 Int Int Int Int Int Int)))) : Res (List Int) :=
  (forR (a_index_here.b) (([a_index_here.a, (a_index_here.b.length : Int)] : List Int) : (List Int)) (fun x40 (a39 : (List Int)) => guardR (a39.length + ([x40.a, x40.b, x40.c, x40.d, x40.e, x40.f] : List Int).length ≤ 1000000) <| .ok (.nx (a39 ++ ([x40.a, x40.b, x40.c, x40.d, x40.e, x40.f] : List Int))))).bind (afterR fun a71 => .ok a71)
def sp__law_index_numbers (K : PySem.W.Frag) : Sp := fun vs H Q _ => ∃ (B : Hp) (v_index_here : V) (a_index_here : (Tp2 Int (List (Tp6 Int Int Int Int Int Int)))), Ex B H ∧ vs = [v_index_here] ∧ Rep K B v_index_here (enc a_index_here) ∧ Post (l_index_numbers a_index_here) (fun r => Ret K [] B H (enc r) Q) (fun _ => False)
abbrev s__law_index_numbers : Stmt := top 32
theorem sc__law_index_numbers : FnScope ["_law_index_here", "_law_found", "_law_row"] ["_law_index_here"] (defScope s__law_index_numbers) := ⟨rfl, rfl, rfl, by decide +kernel, rfl, by decide +kernel, by decide +kernel⟩
/-! ### _law_all_figures -/
def l_all_figures (a_numbers : (List Int)) : Res (List Int) :=
  (forR (a_numbers) (([] : List Int) : (List Int)) (fun x19 (a18 : (List Int)) => (l_figures x19).bind fun x26 => guardR (a18.length + x26.length ≤ 1000000) <| .ok (.nx (a18 ++ x26)))).bind (afterR fun a41 => .ok a41)
def sp__law_all_figures (K : PySem.W.Frag) : Sp := fun vs H Q _ => ∃ (B : Hp) (v_numbers : V) (a_numbers : (List Int)), Ex B H ∧ vs = [v_numbers] ∧ Rep K B v_numbers (enc a_numbers) ∧ Post (l_all_figures a_numbers) (fun r => Ret K [] B H (enc r) Q) (fun _ => False)
abbrev s__law_all_figures : Stmt := top 33
theorem sc__law_all_figures : FnScope ["_law_numbers", "_law_found", "_law_number"] ["_law_numbers"] (defScope s__law_all_figures) := ⟨rfl, rfl, rfl, by decide +kernel, rfl, by decide +kernel, by decide +kernel⟩
/-! ### _law_refused__read_index -/
def l_refused__read_index (a_thing : D) : Res Bool :=
  (tryR ((m_read_index a_thing).bind fun x7 => .ok (.nx ()) : Res (Fl (Unit) (Bool))) (fun ⟨ec, _⟩ => guardR (ec ∈ (["NoBody"] : List Str)) <| .ok (.rt (!false)))).bind (afterR fun a24 => .ok false)
def sp__law_refused__read_index (K : PySem.W.Frag) (f_read_index : Addr) : Sp := fun vs H Q _ => ∃ (B : Hp) (v_thing : V) (a_thing : D), Ex B H ∧ vs = [.ref f_read_index, v_thing] ∧ Rep K B v_thing (enc a_thing) ∧ Post (l_refused__read_index a_thing) (fun r => Ret K [] B H (enc r) Q) (fun _ => False)
abbrev s__law_refused__read_index : Stmt := top 34
theorem sc__law_refused__read_index : FnScope ["_law_ask", "_law_thing", "e"] ["_law_ask", "_law_thing"] (defScope s__law_refused__read_index) := ⟨rfl, rfl, rfl, by decide +kernel, rfl, by decide +kernel, by decide +kernel⟩
/-! ### _law_refused__index_body -/
def l_refused__index_body (a_thing : D) : Res Bool :=
  (tryR ((m_index_body a_thing).bind fun x7 => .ok (.nx ()) : Res (Fl (Unit) (Bool))) (fun ⟨ec, _⟩ => guardR (ec ∈ (["NoBody"] : List Str)) <| .ok (.rt (!false)))).bind (afterR fun a33 => .ok false)
def sp__law_refused__index_body (K : PySem.W.Frag) (f_index_body : Addr) : Sp := fun vs H Q _ => ∃ (B : Hp) (v_thing : V) (a_thing : D), Ex B H ∧ vs = [.ref f_index_body, v_thing] ∧ Rep K B v_thing (enc a_thing) ∧ Post (l_refused__index_body a_thing) (fun r => Ret K [] B H (enc r) Q) (fun _ => False)
abbrev s__law_refused__index_body : Stmt := top 34
theorem sc__law_refused__index_body : FnScope ["_law_ask", "_law_thing", "e"] ["_law_ask", "_law_thing"] (defScope s__law_refused__index_body) := ⟨rfl, rfl, rfl, by decide +kernel, rfl, by decide +kernel, by decide +kernel⟩
/-! ### _law_index -/
def l_index (a_state : (List Int)) : Res ((Tp2 Int (List (Tp6 Int Int Int Int Int Int))) × (List Int)) :=
  (l_digit a_state 5).bind fun x8 => (l_digit x8.2 40).bind fun x14 => (l_digit x14.2 2).bind fun x25 => (ixR ([x8.1, x14.1] : List Int) x25.1).bind fun x35 => guardR (-(2 ^ 62) ≤ (x35 : Int) ∧ (x35 : Int) < 2 ^ 62) <| (forR (rngI 0 x35) ((x25.2, ([] : List (Tp6 Int Int Int Int Int Int))) : (List Int) × (List (Tp6 Int Int Int Int Int Int))) (fun x48 (a47 : (List Int) × (List (Tp6 Int Int Int Int Int Int))) => (l_digit a47.1 2).bind fun x63 => (ixR ([9, (1000000000 + 1)] : List Int) x63.1).bind fun x73 => (l_digit x63.2 x73).bind fun x77 => (l_digit x77.2 2).bind fun x88 => (ixR ([9, (2 * 1000000000)] : List Int) x88.1).bind fun x98 => (l_digit x88.2 x98).bind fun x102 => lt ((1 + x102.1) : Int) fun x108 => (l_digit x102.2 2).bind fun x114 => (ixR ([500, (1000000 + 1)] : List Int) x114.1).bind fun x124 => (l_digit x114.2 x124).bind fun x128 => (l_digit x128.2 8).bind fun x134 => (l_digit x134.2 200).bind fun x140 => (l_digit x140.2 200).bind fun x146 => guardR (a47.2.length < 1000000) <| .ok (.nx (x146.2, (a47.2 ++ [(⟨x134.1, x140.1, (1 + x146.1), x77.1, x108, x128.1⟩ : (Tp6 Int Int Int Int Int Int))]))))).bind (afterR fun a159 => (l_digit a159.1 (1000000000 + 1)).bind fun x167 => .ok ((⟨x167.1, a159.2⟩ : (Tp2 Int (List (Tp6 Int Int Int Int Int Int)))), x167.2))
def sp__law_index (K : PySem.W.Frag) : Sp := fun vs H Q _ => ∃ (B : Hp) (p_state : Addr) (a_state : (List Int)), Ex B H ∧ vs = [.ref p_state] ∧ Mu K B H p_state (a_state.map enc) ∧ Post (l_index a_state) (fun r => RetM K p_state B H (enc r.1) (r.2.map enc) Q) (fun _ => False)
abbrev s__law_index : Stmt := top 35
theorem sc__law_index : FnScope ["_law_state", "_law_rows", "_law_k", "_law_low", "_law_high", "_law_place"] ["_law_state"] (defScope s__law_index) := ⟨rfl, rfl, rfl, by decide +kernel, rfl, by decide +kernel, by decide +kernel⟩
/-! ### _law_no_row -/
def l_no_row (a_state : (List Int)) : Res (D × (List Int)) :=
  (l_digit a_state 6).bind fun x8 => (ixR ([7, 199, 200, 1000000000, (2 * 1000000000), 1000000] : List Int) x8.1).bind fun x23 => (l_digit x8.2 6).bind fun x37 => (ixR ([(enc ((-1) : Int)), (enc ((x23 + 1) : Int)), (enc ()), (enc (decide (1 = 1))), (enc ("1" : Str)), (enc (⟨1⟩ : (Tp1 Int)))] : List D) x37.1).bind fun x47 => (setR ([(enc (1 : Int)), (enc (2 : Int)), (enc (3 : Int)), (enc (4 : Int)), (enc (5 : Int)), (enc (6 : Int))] : List D) x8.1 x47).bind fun x51 => (((if (decide (x8.1 = 2)) = true then .ok true else .ok (decide (x8.1 = 4))) : Res Bool).bind fun b62 => (if b62 = true then (ixR x51 x8.1).bind fun x70 => (l_digit x37.2 2).bind fun x79 => (ixR ([(enc (0 : Int)), x70] : List D) x79.1).bind fun x89 => (setR x51 x8.1 x89).bind fun x93 => .ok (x93, x79.2) else .ok (x51, x37.2)) : Res ((List D) × (List Int))).bind fun a98 => (l_digit a98.2 8).bind fun x145 => (ixR ([(.tup (a98.1.map enc) : D), (.tup (a98.1.map enc) : D), (enc (⟨1, 2, 3, 4, 5⟩ : (Tp5 Int Int Int Int Int))), (enc (⟨1, 2, 3, 4, 5, 6, 7⟩ : (Tp7 Int Int Int Int Int Int Int))), (enc ([1, 2, 3, 4, 5, 6] : List Int)), (enc ()), (enc ("" : Str)), (.tup [] : D)] : List D) x145.1).bind fun x155 => .ok (x155, x145.2)
def sp__law_no_row (K : PySem.W.Frag) : Sp := fun vs H Q _ => ∃ (B : Hp) (p_state : Addr) (a_state : (List Int)), Ex B H ∧ vs = [.ref p_state] ∧ Mu K B H p_state (a_state.map enc) ∧ Post (l_no_row a_state) (fun r => RetM K p_state B H (enc r.1) (r.2.map enc) Q) (fun _ => False)
abbrev s__law_no_row : Stmt := top 36
theorem sc__law_no_row : FnScope ["_law_state", "_law_row", "_law_at", "_law_most", "_law_some"] ["_law_state"] (defScope s__law_no_row) := ⟨rfl, rfl, rfl, by decide +kernel, rfl, by decide +kernel, by decide +kernel⟩
/-! ### _law_no_index -/
def l_no_index (a_state : (List Int)) (a_index_here : (Tp2 Int (List (Tp6 Int Int Int Int Int Int)))) : Res (D × (List Int)) :=
  (l_digit a_state 4).bind fun x9 => (if (decide (x9.1 = 0)) = true then (l_digit x9.2 7).bind fun x45 => (ixR ([(enc ()), (enc ([(enc (a_index_here.a : Int)), (enc a_index_here.b)] : List D)), (enc (⟨a_index_here.a⟩ : (Tp1 Int))), (enc (⟨a_index_here.a, a_index_here.b, 0⟩ : (Tp3 Int (List (Tp6 Int Int Int Int Int Int)) Int))), (.tup [] : D), (enc ("index" : Str)), (.dic [] : D)] : List D) x45.1).bind fun x55 => .ok (x55, x45.2) else (if (decide (x9.1 = 1)) = true then (l_digit x9.2 5).bind fun x64 => (ixR ([(enc ((-1) : Int)), (enc ((1000000000 + 1) : Int)), (enc ()), (enc (decide (1 = 1))), (enc ("1" : Str))] : List D) x64.1).bind fun x74 => .ok ((enc (⟨x74, a_index_here.b⟩ : (Tp2 D (List (Tp6 Int Int Int Int Int Int))))), x64.2) else (if (decide (x9.1 = 2)) = true then guardR (([(⟨0, 0, 1, 0, 1, 0⟩ : (Tp6 Int Int Int Int Int Int))] : List (Tp6 Int Int Int Int Int Int)).length * (Int.toNat 1601) ≤ 1000000 ∧ -(2 ^ 62) ≤ (1601 : Int) ∧ (1601 : Int) < 2 ^ 62) <| (l_digit x9.2 5).bind fun x121 => (ixR ([(enc ()), (.tup (a_index_here.b.map enc) : D), (.dic [] : D), (enc ("" : Str)), (enc (timesL ([(⟨0, 0, 1, 0, 1, 0⟩ : (Tp6 Int Int Int Int Int Int))] : List (Tp6 Int Int Int Int Int Int)) 1601))] : List D) x121.1).bind fun x131 => .ok ((enc (⟨a_index_here.a, x131⟩ : (Tp2 Int D))), x121.2) else (l_digit x9.2 ((a_index_here.b.length : Int) + 1)).bind fun x144 => (l_no_row x144.2).bind fun x159 => guardR (((cutL a_index_here.b none (some x144.1)).map enc : List D).length + ([x159.1] : List D).length ≤ 1000000) <| guardR ((((cutL a_index_here.b none (some x144.1)).map enc : List D) ++ ([x159.1] : List D)).length + ((cutL a_index_here.b (some x144.1) none).map enc : List D).length ≤ 1000000) <| .ok ((enc (⟨a_index_here.a, ((((cutL a_index_here.b none (some x144.1)).map enc : List D) ++ ([x159.1] : List D)) ++ ((cutL a_index_here.b (some x144.1) none).map enc : List D))⟩ : (Tp2 Int (List D)))), x159.2))))
def sp__law_no_index (K : PySem.W.Frag) : Sp := fun vs H Q _ => ∃ (B : Hp) (p_state : Addr) (a_state : (List Int)) (v_index_here : V) (a_index_here : (Tp2 Int (List (Tp6 Int Int Int Int Int Int)))), Ex B H ∧ vs = [.ref p_state, v_index_here] ∧ Mu K B H p_state (a_state.map enc) ∧ Rep K B v_index_here (enc a_index_here) ∧ Post (l_no_index a_state a_index_here) (fun r => RetM K p_state B H (enc r.1) (r.2.map enc) Q) (fun _ => False)
abbrev s__law_no_index : Stmt := top 37
theorem sc__law_no_index : FnScope ["_law_state", "_law_index_here", "_law_seal", "_law_rows", "_law_way", "_law_at"] ["_law_state", "_law_index_here"] (defScope s__law_no_index) := ⟨rfl, rfl, rfl, by decide +kernel, rfl, by decide +kernel, by decide +kernel⟩
/-! ### law -/
def m_law (a_script : (List Int)) : Res Bool :=
  ((l_cell_at a_script 8).bind fun x5 => (if (decide ((x5 % 8) = 5)) = true then (compR (rngI 0 1600) (() : Unit) (fun x15 (a19 : Unit) => .ok (some (⟨(x15 % 8), (x15 % 100), (1 + (x15 % 90)), (x15 % 91), (1 + (x15 % 92)), (x15 % 120)⟩ : (Tp6 Int Int Int Int Int Int)), ()))).bind <| un2 fun acc18 a19 => ((m_index_body (enc (⟨7, acc18⟩ : (Tp2 Int (List (Tp6 Int Int Int Int Int Int)))))).noErr).bind fun x51 => ((m_read_index (enc x51)).noErr).bind fun x71 => guardR (okEq (enc x71) (enc (⟨7, acc18⟩ : (Tp2 Int (List (Tp6 Int Int Int Int Int Int)))))) <| (if (!(eqD (enc x71) (enc (⟨7, acc18⟩ : (Tp2 Int (List (Tp6 Int Int Int Int Int Int))))))) = true then .ok (.rt false) else .ok (.nx ())) else .ok (.nx ())) : Res (Fl (Unit) _)).bind (afterR fun a84 => guardR ((cutL a_script none (some 8)).length + ([0, 1] : List Int).length ≤ 1000000) <| (forR (((cutL a_script none (some 8)) ++ ([0, 1] : List Int))) (() : Unit) (fun x129 (a128 : Unit) => (l_index ([x129] : List Int)).bind fun x152 => (l_index_numbers (⟨x152.1.a, x152.1.b⟩ : (Tp2 Int (List (Tp6 Int Int Int Int Int Int))))).bind fun x171 => (l_all_figures x171).bind fun x177 => (forR (rngI 0 2) (() : Unit) (fun x192 (a191 : Unit) => ((m_index_body (enc (⟨x152.1.a, x152.1.b⟩ : (Tp2 Int (List (Tp6 Int Int Int Int Int Int)))))).noErr).bind fun x217 => (if (isA "list" (enc x217)) = true then guardR (okEq (enc x217) (enc x177)) <| (if (!(eqD (enc x217) (enc x177))) = true then .ok (.rt (.rt false)) else guardR (okEq (enc (⟨x152.1.a, x152.1.b⟩ : (Tp2 Int (List (Tp6 Int Int Int Int Int Int))))) (enc (⟨x152.1.a, x152.1.b⟩ : (Tp2 Int (List (Tp6 Int Int Int Int Int Int)))))) <| (if (!(eqD (enc (⟨x152.1.a, x152.1.b⟩ : (Tp2 Int (List (Tp6 Int Int Int Int Int Int))))) (enc (⟨x152.1.a, x152.1.b⟩ : (Tp2 Int (List (Tp6 Int Int Int Int Int Int))))))) = true then .ok (.rt (.rt false)) else ((m_read_index (enc x217)).noErr).bind fun x252 => guardR (okEq (enc x252) (enc (⟨x152.1.a, x152.1.b⟩ : (Tp2 Int (List (Tp6 Int Int Int Int Int Int)))))) <| (if (!(eqD (enc x252) (enc (⟨x152.1.a, x152.1.b⟩ : (Tp2 Int (List (Tp6 Int Int Int Int Int Int))))))) = true then .ok (.rt (.rt false)) else (if (isA "tuple" (enc x252)) = true then (if (isA "list" (enc x252.b)) = true then guardR (okEq (enc x217) (enc x177)) <| (if (!(eqD (enc x217) (enc x177))) = true then .ok (.rt (.rt false)) else (compR (x252.b) (() : Unit) (fun x284 (a288 : Unit) => .ok (some (isA "tuple" x284), ()))).bind <| un2 fun acc287 a288 => (if (acc287.all id) = true then guardR (x252.b.length < 1000000) <| guardR (x217.length < 1000000) <| (l_refused__read_index (enc (x217 ++ [0]))).bind fun x347 => (if x347 = true then (l_refused__read_index (enc (cutL x177 none (some (-1))))).bind fun x363 => (if x363 = true then .ok (.nx ()) else .ok (.rt (.rt false))) else .ok (.rt (.rt false))) else .ok (.rt (.rt false)))) else .ok (.rt (.rt false))) else .ok (.rt (.rt false)))))) else .ok (.rt (.rt false))))).bind (afterR fun a371 => (l_no_index x152.2 (⟨x152.1.a, x152.1.b⟩ : (Tp2 Int (List (Tp6 Int Int Int Int Int Int))))).bind fun x385 => (l_refused__index_body x385.1).bind fun x391 => (if x391 = true then (l_digit x385.2 7).bind fun x426 => (ixR ([(enc ()), (enc ("" : Str)), (.tup (x177.map enc) : D), (.dic [] : D), (enc (0 : Int)), (enc ([256] : List Int)), (enc ([()] : List Unit))] : List D) x426.1).bind fun x436 => (l_refused__read_index x436).bind fun x440 => (if x440 = true then .ok (.nx ()) else .ok (.rt false)) else .ok (.rt false))))).bind (afterR fun a446 => .ok true))
def sp_law (K : PySem.W.Frag) : Sp := fun vs H Q _ => ∃ (B : Hp) (v_script : V) (a_script : (List Int)), Ex B H ∧ vs = [v_script] ∧ Bor K B H [] v_script (a_script.map enc) ∧ Post (m_law a_script) (fun r => Ret K [] B H (enc r) Q) (fun _ => False)
abbrev s_law : Stmt := top 38
theorem sc_law : FnScope ["_law_script", "_law_rows", "_law_k", "_law_cell", "_law_state", "_law_seal", "_law_due", "_law_turn", "_law_handed", "_law_there", "_law_found", "_law_row"] ["_law_script"] (defScope s_law) := ⟨rfl, rfl, rfl, by decide +kernel, rfl, by decide +kernel, by decide +kernel⟩
section
variable {Pr : Program} {wo : World} {K : PySem.W.Frag} {mg : Str → Option Value} {base : Heap}
theorem ok_is_whole {f : Addr} {fd : FuncData}  (F : Fun K "is_whole" "is_whole" s_is_whole f fd) (bI_isinstance : mg "isinstance" = none) (bI_int : mg "int" = none) (bI_bool : mg "bool" = none) : FnOk Pr wo K mg base CX0 1 f fd ["thing", "low", "high"] (sp_is_whole K) := by
  refine F.ok sc_is_whole (fun vs H Q E h => ?_) (fun cdv A outer s H vs Q E hr h => ?_)
  · obtain ⟨_, _, _, _, _, _, rfl, _⟩ := h; rfl
  · obtain ⟨B, v, d, lo, hi, w, rfl, r, k⟩ := h
    have st := Stp.refl (W := []) w
    refine ⟨_, pss_one (ps_ret (pe_and (pe_callB call_isi (by rfl) bI_isinstance PyProof.Rows.boot_isinstance (pa_cons (pv 0) (pa_cons (pe_bltn (v := .ty "int") (by rfl) bI_int Y.boot_int rfl) pa_nil)))
      (pe_and (pe_not (pe_callB call_isi (by rfl) bI_isinstance PyProof.Rows.boot_isinstance (pa_cons (pv 0) (pa_cons (pe_bltn (v := .ty "bool") (by rfl) bI_bool Y.boot_bool rfl) pa_nil))))
       (pe_one (pe_chain op_le op_le (pv 1) (pv 0) (pv 2)))))), ?_⟩
    refine h_ret (h_and (h_cb (h_cons (h_var rfl (h_cons (h_c (h_nil (isi (t := "int") w r (h_bl ?_)))))))))
    cases d <;> try exact h_iteF (k.ok _ _ _ st (Rep.bl _))
    · refine h_iteT (h_and (h_not (h_cb (h_cons (h_var rfl (h_cons (h_c (h_nil (isi (t := "bool") w r (h_bl (h_bl ?_))))))))))) 
      exact h_iteF (k.ok _ _ _ st (Rep.bl _))
    · cases r
      refine h_iteT (h_and (h_not (h_cb (h_cons (h_var rfl (h_cons (h_c (h_nil (isi (t := "bool") w (Rep.int _) (h_bl (h_bl ?_)))))))))))
      refine h_iteT (h_chain (h_var rfl (h_var rfl (h_ch (fun Q q => h_var rfl q) ?_))))
      exact k.ok _ _ _ st (Rep.bl _)
theorem ok_is_bytes {f : Addr} {fd : FuncData}  (F : Fun K "is_bytes" "is_bytes" s_is_bytes f fd) {f_is_whole : Addr} {d_is_whole : FuncData} (g_is_whole : mg "is_whole" = some (.ref f_is_whole)) (k_is_whole : PySem.W.keepIn K (.ref f_is_whole) = true) (b_is_whole : L2.Binds K d_is_whole ["thing", "low", "high"] []) (G_is_whole : FnOk Pr wo K mg base CX0 1 f_is_whole d_is_whole ["thing", "low", "high"] (sp_is_whole K)) (bI_isinstance : mg "isinstance" = none) (bI_list : mg "list" = none) (bI_all : mg "all" = none) : FnOk Pr wo K mg base CX0 2 f fd ["thing"] (sp_is_bytes K) := by
  refine F.ok sc_is_bytes (fun vs H Q E h => ?_) (fun cdv A outer s H0 vs Q E hr h => ?_)
  · obtain ⟨_, _, _, _, rfl, _⟩ := h; rfl
  · obtain ⟨B0, v_thing, a_thing, w, rfl, r_thing, P⟩ := h
    have w0 := w
    have hu := hu_of hr
    have hu64 := hu64_of hr
    have hu65 := hu65_of hr
    have hr1 : Room 1 _ := hr.mono (by decide)
    refine ⟨_, (pss_one (ps_ret (pe_and (pe_callB (r := rIsi K) call_isi (by rfl) bI_isinstance PyProof.Rows.boot_isinstance (pa_cons (pv 0) (pa_cons (pe_bltn (v := .ty "list") (by rfl) bI_list Y.boot_list rfl) pa_nil))) (pe_one (pe_callB (r := rAll K) (cr_all rfl) (by rfl) bI_all PyProof.Rows.boot_all (pa_cons (pe_lc (own := [("byte", 1)]) rfl sc_is_bytes.nd (pi_list (pv 0)) (blkOk_by (N := ["thing", "byte"]) (sc := defScope s_is_bytes) (by decide +kernel)) (fun _ _ _ _ _ => (pg_name (i := 1) sc_is_bytes.nd rfl (by first | exact Or.inl rfl | exact Or.inr rfl))) (fun _ _ _ _ _ => pts_nil) (fun _ _ _ _ _ => (pe_call G_is_whole hr1 rfl g_is_whole k_is_whole b_is_whole .nil pass0 (pa_cons (pv 1) (pa_cons pe_int (pa_cons pe_int pa_nil)))))) pa_nil)))))), ?_⟩
    unfold m_is_bytes at P
    have st := Stp.refl (W := []) w
    refine h_ret ?_
    refine h_and ?_
    refine h_cb ?_
    refine h_cons ?_
    refine h_var rfl ?_
    refine h_cons ?_
    refine h_c ?_
    refine h_nil ?_
    refine isi (t := "list") w (r_thing.mono st.ex) ?_
    refine h_bl ?_
    refine h_ite (fun c1 => ?_) (fun c1 => ?_)
    · replace P := P.iteT c1
      refine h_cb ?_
      refine h_cons ?_
      refine h_lcE ?_
      refine h_var rfl ?_
      obtain ⟨l1, hl2, P⟩ := P.asL
      have rc3 := (r_thing.mono st.ex)
      rw [hl2] at rc3
      obtain ⟨p4, xs5, rfl, hb6, hr7⟩ := Rep.sqB rc3
      refine h_lcL P (w.l hb6) hr7 (fun Dl (acc : List Bool) (a : Unit) H' => ∃ B', Stp [] B0 H0 B' H' ∧ H0 Dl = none ∧ Mu K B' H' Dl (acc.map enc)) (fun Dl hD => ⟨_, Stp.newM w hD, hD, Mu.new w hD .nil⟩) (fun _ _ _ _ j => ?_) ?_ ?_
      · obtain ⟨B17, s18, hD19, m20⟩ := j
        exact s18.ok.l (s18.ex.l hb6)
      · rintro Dl8 N9 T10 x11 v12 acc14 a15 H16 ⟨B17, s18, hD19, m20⟩ r13 hz21 kk22 kn23 P
        have wj25 := w
        have sj24 := s18
        have n26 := st.nn hD19
        replace st := st.go s18 go0
        replace w := s18.ok
        replace r13 := r13.mono s18.ex
        refine h_gname ?_
        refine h_lcT rfl ?_
        refine h_call ?_
        refine h_cons ?_
        refine h_var rfl ?_
        refine h_cons ?_
        refine h_c ?_
        refine h_cons ?_
        refine h_c ?_
        refine h_nil ?_
        refine ⟨B17, v12, x11, 0, 255, w, rfl, r13, (P.bind).mono (fun x27 P => ?_) (fun _ z => z)⟩
        refine fun v31 B28 H29 s30 r32 => ?_
        replace r13 := r13.mono s30.ex
        replace m20 := m20.step s30 nm0
        replace st := st.go s30 go0
        replace sj24 := sj24.go s30 go0
        replace w := s30.ok
        cases r32
        refine h_app (b := x27) w m20 (Rep.bl _) hz21 (fun H33 s34 m20 => ?_)
        replace r13 := r13.mono s34.ex
        replace st := st.go s34 (go1 (.inr n26))
        replace sj24 := sj24.go s34 (go1 (.inr hD19))
        replace w := s34.ok
        exact kk22 x27 () _ ⟨_, sj24, hD19, m20⟩ P.ok
      · rintro Dl8 acc14 a15 H16 ⟨B17, s18, hD19, m20⟩ P
        have n35 := st.nn hD19
        replace st := st.go s18 go0
        replace w := s18.ok
        replace P := P.un2
        obtain ⟨B40, e36, k37, g38, r39⟩ := Mu.keep m20
        replace st := g38 _ _ _ st w0 n35
        replace w := st.ok
        replace r39 : Rep K B40 (.ref Dl8) (enc acc14) := r39
        refine h_nil ?_
        obtain ⟨p41, xs42, hv, hs43, hr44⟩ := Rep.sq w r39
        cases hv
        refine h_all hs43 hr44 ?_
        exact P.ok _ _ _ st (Rep.bl _)
    · replace P := P.iteF c1
      exact P.ok _ _ _ st (Rep.bl _)
theorem ok_written {f : Addr} {fd : FuncData}  (F : Fun K "written" "written" s_written f fd) (c_GREATEST : CI mg "GREATEST" 1000000000000000000000000000000000000000000000000000000000000) {C_NoNumber : Addr} (T_NoNumber : ExcR K mg "NoNumber" C_NoNumber) {f_is_whole : Addr} {d_is_whole : FuncData} (g_is_whole : mg "is_whole" = some (.ref f_is_whole)) (k_is_whole : PySem.W.keepIn K (.ref f_is_whole) = true) (b_is_whole : L2.Binds K d_is_whole ["thing", "low", "high"] []) (G_is_whole : FnOk Pr wo K mg base CX0 1 f_is_whole d_is_whole ["thing", "low", "high"] (sp_is_whole K)) : FnOk Pr wo K mg base (L2.CX Pr wo) 2 f fd ["number"] (sp_written K mg) := by
  refine F.okX sc_written (fun vs H Q E h => ?_) (fun cdv A outer s H0 vs Q E hr h => ?_)
  · obtain ⟨_, _, _, rfl, _⟩ := h; rfl
  · obtain ⟨B0, a_number, w, rfl, P⟩ := h
    have w0 := w
    have hu := hu_of hr
    have hu64 := hu64_of hr
    have hu65 := hu65_of hr
    have hr1 : Room 1 _ := hr.mono (by decide)
    refine ⟨_, (pss_cons (ps_if (pt_not (pt_val (pe_call G_is_whole hr1 rfl g_is_whole k_is_whole b_is_whole .nil pass0 (pa_cons (pv 0) (pa_cons pe_int (pa_cons (pe_globI (i := 1000000000000000000000000000000000000000000000000000000000000) (by rfl) c_GREATEST) pa_nil)))))) (pss_one (ps_raise rfl (takes_of rfl rfl rfl rfl) (pmk_own PySem.F.excBase_ValueError T_NoNumber.ex T_NoNumber.g T_NoNumber.kp (raises_own T_NoNumber.ec.hs T_NoNumber.ty) rfl))) pss_nil)
      (pss_cons (ps_set (i := 1) sc_written.nd rfl (by first | exact Or.inl rfl | exact Or.inr rfl) (pe_lst (pa_cons (pe_op op_mod (pv 0) pe_int) pa_nil)))
      (pss_cons (ps_set (i := 0) sc_written.nd rfl (by first | exact Or.inl rfl | exact Or.inr rfl) (pe_op op_fdiv (pv 0) pe_int))
      (pss_cons (ps_while (passes_of rfl) (pt_cmpR op_gt (pv 0) pe_int (nomark _)) (pss_cons (ps_expr (pe_bm PySem.F.plainAttrs_list PySem.F.slot_list_append PySem.F.type_list_append mt_append (pv 1) (pa_cons (pe_op op_add pe_int (pe_op op_mod (pv 0) pe_int)) pa_nil)))
      (pss_one (ps_set (i := 0) sc_written.nd rfl (by first | exact Or.inl rfl | exact Or.inr rfl) (pe_op op_fdiv (pv 0) pe_int)))))
      (pss_one (ps_ret (pe_revL (pv 1)))))))), ?_⟩
    unfold m_written at P
    have st := Stp.refl (W := []) w
    refine h_seq <| h_if ?_
    refine h_tnot ?_
    refine h_tB ?_
    refine h_call ?_
    refine h_cons ?_
    refine h_var rfl ?_
    refine h_cons ?_
    refine h_c ?_
    refine h_cons ?_
    refine h_c ?_
    refine h_nil ?_
    refine ⟨B0, .int a_number, (enc (a_number : Int)), 0, 1000000000000000000000000000000000000000000000000000000000000, w, rfl, (Rep.int _), (P.bind.noErr).mono (fun x1 P => ?_) (fun _ z => z.elim)⟩
    refine fun v5 B2 H3 s4 r6 => ?_
    replace st := st.go s4 go0
    replace w := s4.ok
    cases r6
    refine h_bl ?_
    refine h_iteN (fun c1 => ?_) (fun c1 => ?_)
    · replace P := P.iteF c1
      exact P.err _ _ _ T_NoNumber.g st
    · replace P := P.iteT c1
      refine h_next ?_
      refine h_nx ?_
      refine h_set ?_
      refine h_lst ?_
      refine h_cons ?_
      refine h_op ?_
      refine h_var rfl ?_
      refine h_c ?_
      refine h_I (by decide +kernel) ?_
      refine h_nil ?_
      refine h_newM w (ds := (([(a_number % 128)] : List Int)).map enc) (K := K) (.cons (Rep.int _) .nil) (fun p7 H8 hn11 s9 m10 => ?_) (by show 1 ≤ sizeLine; decide)
      have n12 := st.nn hn11
      replace st := st.go s9 go0
      replace w := s9.ok
      refine h_set ?_
      refine h_op ?_
      refine h_var rfl ?_
      refine h_c ?_
      refine h_I ⟨by decide +kernel, by decide +kernel⟩ ?_
      replace P := P.lt
      generalize hx : (a_number / 128) = x13 at P ⊢
      refine h_seq ?_
      have wj15 := w
      have sj14 := Stp.refl (W := [p7]) w
      refine h_while P (fun (a : Int × (List Int)) σ' H' => ∃ (B' : Hp), Stp [p7] B2 H8 B' H' ∧ σ' = [some (.int a.1), some ((.ref p7))] ∧ Mu K B' H' p7 (a.2.map enc)) ⟨_, sj14, rfl, m10⟩ ?_ ?_
      · rintro N16 C17 T18 a23 _ H25 ⟨B24, s26, rfl, m10⟩ kn19 kk20 kr21 kb22 P
        replace st := st.go s26 (go1 (.inr n12))
        replace w := s26.ok
        have sj14 := s26
        refine h_test ?_
        refine h_op ?_
        refine h_var rfl ?_
        refine h_c ?_
        refine h_I0 ?_
        refine h_bl ?_
        refine h_ite (fun c1 => ?_) (fun c1 => ?_)
        · replace P := P.iteT c1
          refine ⟨N16, kn19, ?_⟩
          refine h_seq ?_
          refine h_drop ?_
          refine h_bm ?_
          refine h_var rfl ?_
          refine h_bmL m10 ?_
          refine h_cons ?_
          refine h_op ?_
          refine h_c ?_
          refine h_op ?_
          refine h_var rfl ?_
          refine h_c ?_
          refine h_I (by decide +kernel) ?_
          refine h_I0 ?_
          refine h_nil ?_
          obtain ⟨gd, P⟩ := P.guard
          refine h_append (b := (128 + (a23.1 % 128))) w m10 (Rep.int _) gd (fun H27 s28 m10 => ?_)
          replace st := st.go s28 (go1 (.inr n12))
          replace sj14 := sj14.go s28 (go1 (.inl (by simp)))
          replace w := s28.ok
          refine h_nx ?_
          refine h_set1 ?_
          refine h_op ?_
          refine h_var rfl ?_
          refine h_c ?_
          refine h_I ⟨by decide +kernel, by decide +kernel⟩ ?_
          replace P := P.lt
          generalize hx : (a23.1 / 128) = x29 at P ⊢
          refine h_nx ?_
          exact kk20 (x29, (a23.2 ++ [(128 + (a23.1 % 128))])) _ _ ⟨_, sj14, rfl, m10⟩ P.ok
        · replace P := P.iteF c1
          exact kb22 (a23.1, a23.2) _ _ ⟨_, sj14, rfl, m10⟩ P.ok
      · rintro a30 _ H32 ⟨B31, s33, rfl, m10⟩ P
        replace st := st.go s33 (go1 (.inr n12))
        replace w := s33.ok
        refine h_nx ?_
        refine h_ret ?_
        refine h_revL ?_
        refine h_var rfl ?_
        obtain ⟨xs35, hv, hs36, hr37⟩ := Mu.sq m10
        refine h_revQ hs36 ?_
        refine h_nwM w (ds := ((a30.2.reverse)).map enc) (K := K) (RepL.rev hr37) (fun p38 H39 hn42 s40 m41 => ?_) 
        have n43 := st.nn hn42
        have ne44 := Mu.ne m10 hn42
        replace m10 := m10.step s40 nm0
        replace st := st.go s40 go0
        replace w := s40.ok
        exact P.ok _ _ _ st n43 m41
theorem ok_number_at {f : Addr} {fd : FuncData}  (F : Fun K "number_at" "number_at" s_number_at f fd) (c_GREATEST : CI mg "GREATEST" 1000000000000000000000000000000000000000000000000000000000000) (bI_len : mg "len" = none) : FnOk Pr wo K mg base CX0 1 f fd ["row", "at"] (sp_number_at K) := by
  refine F.ok sc_number_at (fun vs H Q E h => ?_) (fun cdv A outer s H0 vs Q E hr h => ?_)
  · obtain ⟨_, _, _, _, _, rfl, _⟩ := h; rfl
  · obtain ⟨B0, v_row, a_row, a_at, w, rfl, r_row, P⟩ := h
    have w0 := w
    have hu := hu_of hr
    have hu64 := hu64_of hr
    have hu65 := hu65_of hr
    refine ⟨_, (pss_cons (ps_if (pt_cmpR (r := rEqD K) (op_eqD hu64) (pe_slice (r := rSlQ K) sl_Q (pv 0) (po_some (pv 1)) (po_some (pe_op op_add (pv 1) pe_int))) (pe_lst (pa_cons pe_int pa_nil)) (nomark _)) (pss_one (ps_ret pe_non)) pss_nil)
      (pss_cons (ps_set (i := 2) sc_number_at.nd rfl (by first | exact Or.inl rfl | exact Or.inr rfl) pe_int)
      (pss_cons (ps_while PassesOwn.never (pt_cmpR op_lt (pv 1) (pe_callB (r := rLenY K) cr_len (by rfl) bI_len PySem.boot_len (pa_cons (pv 0) pa_nil)) (nomark _)) (pss_cons (ps_set (i := 2) sc_number_at.nd rfl (by first | exact Or.inl rfl | exact Or.inr rfl) (pe_op op_add (pe_op op_mul (pv 2) pe_int) (pe_op op_mod (pe_ix (r := rIxL K) ix_list (pv 0) (pv 1) (fun _ _ => rfl)) pe_int)))
      (pss_cons (ps_set (i := 1) sc_number_at.nd rfl (by first | exact Or.inl rfl | exact Or.inr rfl) (pe_op op_add (pv 1) pe_int))
      (pss_cons (ps_if (pt_cmpR op_gt (pv 2) (pe_globI (i := 1000000000000000000000000000000000000000000000000000000000000) (by rfl) c_GREATEST) (nomark _)) (pss_one (ps_ret pe_non)) pss_nil)
      (pss_one (ps_if (pt_cmpR op_lt (pe_ix (r := rIxL K) ix_list (pv 0) (pe_op op_sub (pv 1) pe_int) (fun _ _ => rfl)) pe_int (nomark _)) (pss_one (ps_ret (pe_tup (pa_cons (pv 2) (pa_cons (pv 1) pa_nil))))) pss_nil))))))
      (pss_one (ps_ret pe_non))))), ?_⟩
    unfold m_number_at at P
    have st := Stp.refl (W := []) w
    refine h_seq <| h_if ?_
    refine h_test ?_
    refine h_op ?_
    refine h_sl ?_
    refine h_var rfl ?_
    refine h_part ?_
    refine h_var rfl ?_
    refine h_isI ?_
    refine h_part ?_
    refine h_op ?_
    refine h_var rfl ?_
    refine h_c ?_
    refine h_I0 ?_
    refine h_isI ?_
    obtain ⟨p1, xs2, rfl, hs3, hr4⟩ := Rep.sq w (r_row.mono st.ex)
    refine h_slQ hs3 ?_
    refine h_nwL w (ds := ((cutL a_row (some a_at) (some (a_at + 1)))).map enc) (K := K) (hr4.cut (some a_at) (some (a_at + 1))) (fun p5 B6 H7 s8 r9 => ?_) 
    replace st := st.go s8 go0
    replace w := s8.ok
    replace r9 : Rep K B6 (.ref p5) (enc (cutL a_row (some a_at) (some (a_at + 1)))) := r9
    refine h_lst ?_
    refine h_cons ?_
    refine h_c ?_
    refine h_nil ?_
    refine h_newL w (ds := (([128] : List Int)).map enc) (K := K) (.cons (Rep.int _) .nil) (fun p10 B11 H12 s13 r14 => ?_) (by show 1 ≤ sizeLine; decide)
    replace r9 := r9.mono s13.ex
    replace st := st.go s13 go0
    replace w := s13.ok
    replace r14 : Rep K B11 (.ref p10) (enc ([128] : List Int)) := r14
    obtain ⟨gd, P⟩ := P.guard
    refine h_eqD (d := (enc (cutL a_row (some a_at) (some (a_at + 1))))) (e := (enc ([128] : List Int))) w r9 r14 gd ?_
    refine h_bl ?_
    refine h_ite (fun c1 => ?_) (fun c1 => ?_)
    · replace P := P.iteT c1
      refine h_ret ?_
      refine h_c ?_
      exact P.ok _ _ _ st Rep.non
    · replace P := P.iteF c1
      refine h_next ?_
      refine h_nx ?_
      refine h_set ?_
      refine h_c ?_
      refine h_seq ?_
      have wj16 := w
      have sj15 := Stp.refl (W := []) w
      refine h_while P (fun (a : Int × Int) σ' H' => ∃ (B' : Hp), Stp [] B11 H12 B' H' ∧ σ' = [some ((.ref p1)), some (.int a.2), some (.int a.1)]) ⟨_, sj15, rfl⟩ ?_ ?_
      · rintro N17 C18 T19 a24 _ H26 ⟨B25, s27, rfl⟩ kn20 kk21 kr22 kb23 P
        replace st := st.go s27 go0
        replace w := s27.ok
        have sj15 := s27
        refine h_test ?_
        refine h_op ?_
        refine h_var rfl ?_
        refine h_cb ?_
        refine h_cons ?_
        refine h_var rfl ?_
        refine h_nil ?_
        obtain ⟨p28, xs29, hv, hs30, hr31⟩ := Rep.sq w (r_row.mono st.ex)
        cases hv
        refine h_len hs30 hr31 ?_
        refine h_I0 ?_
        refine h_bl ?_
        refine h_ite (fun c1 => ?_) (fun c1 => ?_)
        · replace P := P.iteT c1
          refine ⟨N17, kn20, ?_⟩
          refine h_set ?_
          refine h_op ?_
          refine h_op ?_
          refine h_var rfl ?_
          refine h_c ?_
          refine h_I (.inr ⟨by decide +kernel, by decide +kernel⟩) ?_
          refine h_op ?_
          refine h_op ?_
          refine h_var rfl ?_
          refine h_var rfl ?_
          obtain ⟨p32, xs33, hv, hs34, hr35⟩ := Rep.sq w (r_row.mono st.ex)
          cases hv
          obtain ⟨x36, hx37, P⟩ := P.ix
          obtain ⟨u38, hu, r39⟩ := RepL.atE hr35 hx37
          refine h_ixL hs34 hu ?_
          cases r39
          refine h_c ?_
          refine h_I (by decide +kernel) ?_
          refine h_I0 ?_
          replace P := P.lt
          generalize hx : ((a24.1 * 128) + (x36 % 128)) = x40 at P ⊢
          refine h_set ?_
          refine h_op ?_
          refine h_var rfl ?_
          refine h_c ?_
          refine h_I0 ?_
          replace P := P.lt
          generalize hx : (a24.2 + 1) = x41 at P ⊢
          refine h_seq <| h_if ?_
          refine h_test ?_
          refine h_op ?_
          refine h_var rfl ?_
          refine h_c ?_
          refine h_I0 ?_
          refine h_bl ?_
          refine h_ite (fun c1 => ?_) (fun c1 => ?_)
          · replace P := P.iteT c1
            refine h_ret ?_
            refine h_c ?_
            exact (kr22 _ P.ok) _ _ _ st Rep.non
          · replace P := P.iteF c1
            refine h_next ?_
            refine h_nx ?_
            refine h_if ?_
            refine h_test ?_
            refine h_op ?_
            refine h_op ?_
            refine h_var rfl ?_
            refine h_op ?_
            refine h_var rfl ?_
            refine h_c ?_
            refine h_I0 ?_
            obtain ⟨p42, xs43, hv, hs44, hr45⟩ := Rep.sq w (r_row.mono st.ex)
            cases hv
            obtain ⟨x46, hx47, P⟩ := P.ix
            obtain ⟨u48, hu, r49⟩ := RepL.atE hr45 hx47
            refine h_ixL hs44 hu ?_
            cases r49
            refine h_c ?_
            refine h_I0 ?_
            refine h_bl ?_
            refine h_ite (fun c1 => ?_) (fun c1 => ?_)
            · replace P := P.iteT c1
              refine h_ret ?_
              refine h_tup ?_
              refine h_cons ?_
              refine h_var rfl ?_
              refine h_cons ?_
              refine h_var rfl ?_
              refine h_nil ?_
              refine h_newT w (K := K) (.cons (Rep.int _) (.cons (Rep.int _) .nil)) (fun p50 B51 H52 s53 r54 => ?_) (by show 2 ≤ sizeLine; decide)
              replace st := st.go s53 go0
              replace sj15 := sj15.go s53 go0
              replace w := s53.ok
              replace r54 : Rep K B51 (.ref p50) (enc (⟨x40, x41⟩ : (Tp2 Int Int))) := r54
              exact (kr22 _ P.ok) _ _ _ st r54
            · replace P := P.iteF c1
              refine h_next ?_
              refine h_nx ?_
              exact kk21 (x40, x41) _ _ ⟨_, sj15, rfl⟩ P.ok
        · replace P := P.iteF c1
          exact kb23 (a24.1, a24.2) _ _ ⟨_, sj15, rfl⟩ P.ok
      · rintro a55 _ H57 ⟨B56, s58, rfl⟩ P
        replace st := st.go s58 go0
        replace w := s58.ok
        refine h_nx ?_
        refine h_ret ?_
        refine h_c ?_
        exact P.ok _ _ _ st Rep.non
theorem ok_all_written {f : Addr} {fd : FuncData}  (F : Fun K "all_written" "all_written" s_all_written f fd) {f_written : Addr} {d_written : FuncData} (g_written : mg "written" = some (.ref f_written)) (k_written : PySem.W.keepIn K (.ref f_written) = true) (b_written : L2.Binds K d_written ["number"] []) (G_written : FnOk Pr wo K mg base (L2.CX Pr wo) 2 f_written d_written ["number"] (sp_written K mg)) : FnOk Pr wo K mg base CX0 3 f fd ["numbers"] (sp_all_written K) := by
  refine F.ok sc_all_written (fun vs H Q E h => ?_) (fun cdv A outer s H0 vs Q E hr h => ?_)
  · obtain ⟨_, _, _, _, rfl, _⟩ := h; rfl
  · obtain ⟨B0, v_numbers, a_numbers, w, rfl, r_numbers, P⟩ := h
    have w0 := w
    have hu := hu_of hr
    have hu64 := hu64_of hr
    have hu65 := hu65_of hr
    have hr2 : Room 2 _ := hr.mono (by decide)
    refine ⟨_, (pss_cons (ps_set (i := 1) sc_all_written.nd rfl (by first | exact Or.inl rfl | exact Or.inr rfl) (pe_lst pa_nil))
      (pss_cons (ps_for PassesOwn.never rfl (pi_list (pv 0)) (pg_name (i := 2) sc_all_written.nd rfl (by first | exact Or.inl rfl | exact Or.inr rfl)) (pss_one (ps_expr (pe_bm PySem.F.plainAttrs_list PySem.F.slot_list_extend PySem.F.type_list_extend mt_extend (pv 1) (pa_cons (pe_call G_written hr2 rfl g_written k_written b_written .nil passL (pa_cons (pv 2) pa_nil)) pa_nil)))))
      (pss_one (ps_ret (pv 1))))), ?_⟩
    unfold m_all_written at P
    have st := Stp.refl (W := []) w
    refine h_set ?_
    refine h_lst ?_
    refine h_nil ?_
    refine h_newM w (ds := (([] : List Int)).map enc) (K := K) .nil (fun p1 H2 hn5 s3 m4 => ?_) (by show 0 ≤ sizeLine; decide)
    have n6 := st.nn hn5
    replace st := st.go s3 go0
    replace w := s3.ok
    refine h_seq ?_
    refine h_forE ?_
    refine h_var rfl ?_
    obtain ⟨p7, xs8, rfl, hr10, hb9⟩ := Bor.sq0 r_numbers
    have wj12 := w
    have sj11 := Stp.refl (W := [p1]) w
    refine h_forL P (hb9 _ _ st) (hr10.mono st.ex) (fun (a : (List Int)) σ' H' => ∃ (B' : Hp) (o_number : Option V), Stp [p1] B0 H2 B' H' ∧ σ' = [some ((.ref p7)), some ((.ref p1)), o_number] ∧ Mu K B' H' p1 (a.map enc)) ⟨_, _, sj11, rfl, m4⟩ (fun _ _ _ j => ?_) ?_ ?_
    · obtain ⟨B22, o25, s24, rfl, m4⟩ := j
      exact hb9 _ _ (st.go s24 (go1 (.inr n6)))
    · rintro N13 T14 x19 v20 a18 _ H23 ⟨B22, o25, s24, rfl, m4⟩ r21 kk15 kr16 kb17 P
      replace st := st.go s24 (go1 (.inr n6))
      replace w := s24.ok
      have sj11 := s24
      replace r21 := r21.mono sj11.ex
      cases r21
      refine h_gname ?_
      refine h_drop ?_
      refine h_bm ?_
      refine h_var rfl ?_
      refine h_bmL m4 ?_
      refine h_cons ?_
      refine h_call ?_
      refine h_cons ?_
      refine h_var rfl ?_
      refine h_nil ?_
      refine ⟨B22, x19, w, rfl, (P.bind.noErr).mono (fun x26 P => ?_) (fun _ z => z.elim)⟩
      refine fun p32 B27 H28 s29 hn33 m34 => ?_
      have n36 := st.nn hn33
      have n37 := sj11.nn hn33
      have ne38 := Mu.ne m4 hn33
      replace m4 := m4.step s29 nm0
      replace st := st.go s29 go0
      replace sj11 := sj11.go s29 go0
      replace w := s29.ok
      refine h_nil ?_
      obtain ⟨gd, P⟩ := P.guard
      refine h_extend w m4 m34 gd (fun H39 s40 m4 => ?_)
      replace st := st.go s40 (go1 (.inr n6))
      replace sj11 := sj11.go s40 (go1 (.inl (by simp)))
      replace w := s40.ok
      refine h_nx ?_
      exact kk15 (a18 ++ x26) _ _ ⟨_, _, sj11, rfl, m4⟩ P.ok
    · rintro a41 _ H43 ⟨B42, o45, s44, rfl, m4⟩ P
      replace st := st.go s44 (go1 (.inr n6))
      replace w := s44.ok
      refine h_nx ?_
      refine h_ret ?_
      refine h_var rfl ?_
      exact P.ok _ _ _ st n6 m4
theorem ok_is_index_row {f : Addr} {fd : FuncData}  (F : Fun K "is_index_row" "is_index_row" s_is_index_row f fd) {f_is_whole : Addr} {d_is_whole : FuncData} (g_is_whole : mg "is_whole" = some (.ref f_is_whole)) (k_is_whole : PySem.W.keepIn K (.ref f_is_whole) = true) (b_is_whole : L2.Binds K d_is_whole ["thing", "low", "high"] []) (G_is_whole : FnOk Pr wo K mg base CX0 1 f_is_whole d_is_whole ["thing", "low", "high"] (sp_is_whole K)) (bI_isinstance : mg "isinstance" = none) (bI_tuple : mg "tuple" = none) (bI_len : mg "len" = none) : FnOk Pr wo K mg base CX0 2 f fd ["thing"] (sp_is_index_row K) := by
  refine F.ok sc_is_index_row (fun vs H Q E h => ?_) (fun cdv A outer s H0 vs Q E hr h => ?_)
  · obtain ⟨_, _, _, _, rfl, _⟩ := h; rfl
  · obtain ⟨B0, v_thing, a_thing, w, rfl, r_thing, P⟩ := h
    have w0 := w
    have hu := hu_of hr
    have hu64 := hu64_of hr
    have hu65 := hu65_of hr
    have hr1 : Room 1 _ := hr.mono (by decide)
    refine ⟨_, (pss_cons (ps_if (PW.pt (pw_or (pt_not (pt_val (pe_callB (r := rIsi K) call_isi (by rfl) bI_isinstance PyProof.Rows.boot_isinstance (pa_cons (pv 0) (pa_cons (pe_bltn (v := .ty "tuple") (by rfl) bI_tuple Y.boot_tuple rfl) pa_nil))))) (pw_or1 (pt_cmpR op_ne (pe_callB (r := rLenY K) cr_len (by rfl) bI_len PySem.boot_len (pa_cons (pv 0) pa_nil)) pe_int (nomark _))))) (pss_one (ps_ret pe_bl)) pss_nil)
      (pss_cons (ps_asg (pv 0) (pg_tupK (K := K) (n := 6) rfl rfl (pgs_cons (pg_name (i := 1) sc_is_index_row.nd rfl (by first | exact Or.inl rfl | exact Or.inr rfl)) (pgs_cons (pg_name (i := 2) sc_is_index_row.nd rfl (by first | exact Or.inl rfl | exact Or.inr rfl)) (pgs_cons (pg_name (i := 3) sc_is_index_row.nd rfl (by first | exact Or.inl rfl | exact Or.inr rfl)) (pgs_cons (pg_name (i := 4) sc_is_index_row.nd rfl (by first | exact Or.inl rfl | exact Or.inr rfl)) (pgs_cons (pg_name (i := 5) sc_is_index_row.nd rfl (by first | exact Or.inl rfl | exact Or.inr rfl)) (pgs_cons (pg_name (i := 6) sc_is_index_row.nd rfl (by first | exact Or.inl rfl | exact Or.inr rfl)) pgs_nil))))))))
      (pss_cons (ps_if (PW.pt (pw_or (pt_not (pt_val (pe_call G_is_whole hr1 rfl g_is_whole k_is_whole b_is_whole .nil pass0 (pa_cons (pv 1) (pa_cons pe_int (pa_cons pe_int pa_nil)))))) (pw_or (pt_not (pt_val (pe_call G_is_whole hr1 rfl g_is_whole k_is_whole b_is_whole .nil pass0 (pa_cons (pv 2) (pa_cons pe_int (pa_cons pe_int pa_nil)))))) (pw_or1 (pt_not (pt_val (pe_call G_is_whole hr1 rfl g_is_whole k_is_whole b_is_whole .nil pass0 (pa_cons (pv 3) (pa_cons pe_int (pa_cons pe_int pa_nil)))))))))) (pss_one (ps_ret pe_bl)) pss_nil)
      (pss_one (ps_ret (pe_and (pe_call G_is_whole hr1 rfl g_is_whole k_is_whole b_is_whole .nil pass0 (pa_cons (pv 4) (pa_cons pe_int (pa_cons (pe_op op_pow pe_int pe_int) pa_nil)))) (pe_and (pe_call G_is_whole hr1 rfl g_is_whole k_is_whole b_is_whole .nil pass0 (pa_cons (pv 5) (pa_cons pe_int (pa_cons (pe_op op_mul pe_int (pe_op op_pow pe_int pe_int)) pa_nil)))) (pe_one (pe_call G_is_whole hr1 rfl g_is_whole k_is_whole b_is_whole .nil pass0 (pa_cons (pv 6) (pa_cons pe_int (pa_cons (pe_op op_pow pe_int pe_int) pa_nil)))))))))))), ?_⟩
    unfold m_is_index_row at P
    have st := Stp.refl (W := []) w
    refine h_seq <| h_if ?_
    refine h_tor ?_
    refine h_tnot ?_
    refine h_tB ?_
    refine h_cb ?_
    refine h_cons ?_
    refine h_var rfl ?_
    refine h_cons ?_
    refine h_c ?_
    refine h_nil ?_
    refine isi (t := "tuple") w (r_thing.mono st.ex) ?_
    refine h_bl ?_
    refine h_iteN (fun c1 => ?_) (fun c1 => ?_)
    · replace P := P.iteF c1
      refine h_iteT ?_
      refine h_ret ?_
      refine h_c ?_
      exact P.ok _ _ _ st (Rep.bl _)
    · replace P := P.iteT c1
      refine h_test ?_
      refine h_op ?_
      refine h_cb ?_
      refine h_cons ?_
      refine h_var rfl ?_
      refine h_nil ?_
      obtain ⟨l1, hl2, P⟩ := P.asT
      have rc3 := (r_thing.mono st.ex)
      rw [hl2] at rc3
      obtain ⟨p4, xs5, rfl, hs6, hr7⟩ := Rep.st w rc3
      refine h_lenTl hs6 hr7 ?_
      refine h_c ?_
      refine h_neI ?_
      refine h_bl ?_
      refine h_ite (fun c1 => ?_) (fun c1 => ?_)
      · replace P := P.iteT c1
        refine h_ret ?_
        refine h_c ?_
        exact P.ok _ _ _ st (Rep.bl _)
      · replace P := P.iteF c1
        refine h_next ?_
        refine h_nx ?_
        refine h_seq ?_
        refine h_asg ?_
        refine h_var rfl ?_
        obtain ⟨l8, hl9, P⟩ := P.asT
        have rc10 := (r_thing.mono st.ex)
        rw [hl9] at rc10
        obtain ⟨p11, xs12, hv, hs13, hr14⟩ := Rep.st w rc10
        cases hv
        obtain ⟨gd, P⟩ := P.guard
        refine h_tupG hs13 (by rw [hr14.length, List.length_map]; exact gd) ?_
        obtain ⟨x16, hx17, P⟩ := P.ix
        obtain ⟨u18, huu18, r19⟩ := RepL.atE hr14 hx17
        obtain ⟨x20, hx21, P⟩ := P.ix
        obtain ⟨u22, huu22, r23⟩ := RepL.atE hr14 hx21
        obtain ⟨x24, hx25, P⟩ := P.ix
        obtain ⟨u26, huu26, r27⟩ := RepL.atE hr14 hx25
        obtain ⟨x28, hx29, P⟩ := P.ix
        obtain ⟨u30, huu30, r31⟩ := RepL.atE hr14 hx29
        obtain ⟨x32, hx33, P⟩ := P.ix
        obtain ⟨u34, huu34, r35⟩ := RepL.atE hr14 hx33
        obtain ⟨x36, hx37, P⟩ := P.ix
        obtain ⟨u38, huu38, r39⟩ := RepL.atE hr14 hx37
        obtain rfl : xs12 = [u18, u22, u26, u30, u34, u38] := tup6 (by rw [hr14.length, List.length_map]; exact gd) huu18 huu22 huu26 huu30 huu34 huu38
        refine h_gcons ?_
        refine h_gname ?_
        refine h_gcons ?_
        refine h_gname ?_
        refine h_gcons ?_
        refine h_gname ?_
        refine h_gcons ?_
        refine h_gname ?_
        refine h_gcons ?_
        refine h_gname ?_
        refine h_gcons ?_
        refine h_gname ?_
        refine h_gnil ?_
        refine h_nx ?_
        refine h_seq <| h_if ?_
        refine h_tor ?_
        refine h_tnot ?_
        refine h_tB ?_
        refine h_call ?_
        refine h_cons ?_
        refine h_var rfl ?_
        refine h_cons ?_
        refine h_c ?_
        refine h_cons ?_
        refine h_c ?_
        refine h_nil ?_
        refine ⟨B0, u18, x16, 0, 7, w, rfl, r19, (P.bind).mono (fun x40 P => ?_) (fun _ z => z)⟩
        refine fun v44 B41 H42 s43 r45 => ?_
        replace r19 := r19.mono s43.ex
        replace r23 := r23.mono s43.ex
        replace r27 := r27.mono s43.ex
        replace r31 := r31.mono s43.ex
        replace r35 := r35.mono s43.ex
        replace r39 := r39.mono s43.ex
        replace st := st.go s43 go0
        replace w := s43.ok
        cases r45
        refine h_bl ?_
        refine h_iteN (fun c1 => ?_) (fun c1 => ?_)
        · replace P := P.iteF c1
          refine h_iteT ?_
          refine h_ret ?_
          refine h_c ?_
          exact P.ok _ _ _ st (Rep.bl _)
        · replace P := P.iteT c1
          refine h_tor ?_
          refine h_tnot ?_
          refine h_tB ?_
          refine h_call ?_
          refine h_cons ?_
          refine h_var rfl ?_
          refine h_cons ?_
          refine h_c ?_
          refine h_cons ?_
          refine h_c ?_
          refine h_nil ?_
          refine ⟨B41, u22, x20, 0, 199, w, rfl, r23, (P.bind).mono (fun x46 P => ?_) (fun _ z => z)⟩
          refine fun v50 B47 H48 s49 r51 => ?_
          replace r19 := r19.mono s49.ex
          replace r23 := r23.mono s49.ex
          replace r27 := r27.mono s49.ex
          replace r31 := r31.mono s49.ex
          replace r35 := r35.mono s49.ex
          replace r39 := r39.mono s49.ex
          replace st := st.go s49 go0
          replace w := s49.ok
          cases r51
          refine h_bl ?_
          refine h_iteN (fun c1 => ?_) (fun c1 => ?_)
          · replace P := P.iteF c1
            refine h_iteT ?_
            refine h_ret ?_
            refine h_c ?_
            exact P.ok _ _ _ st (Rep.bl _)
          · replace P := P.iteT c1
            refine h_tnot ?_
            refine h_tB ?_
            refine h_call ?_
            refine h_cons ?_
            refine h_var rfl ?_
            refine h_cons ?_
            refine h_c ?_
            refine h_cons ?_
            refine h_c ?_
            refine h_nil ?_
            refine ⟨B47, u26, x24, 1, 200, w, rfl, r27, (P.bind).mono (fun x52 P => ?_) (fun _ z => z)⟩
            refine fun v56 B53 H54 s55 r57 => ?_
            replace r19 := r19.mono s55.ex
            replace r23 := r23.mono s55.ex
            replace r27 := r27.mono s55.ex
            replace r31 := r31.mono s55.ex
            replace r35 := r35.mono s55.ex
            replace r39 := r39.mono s55.ex
            replace st := st.go s55 go0
            replace w := s55.ok
            cases r57
            refine h_bl ?_
            refine h_iteN (fun c1 => ?_) (fun c1 => ?_)
            · replace P := P.iteF c1
              refine h_ret ?_
              refine h_c ?_
              exact P.ok _ _ _ st (Rep.bl _)
            · replace P := P.iteT c1
              refine h_next ?_
              refine h_nx ?_
              refine h_ret ?_
              refine h_and ?_
              refine h_call ?_
              refine h_cons ?_
              refine h_var rfl ?_
              refine h_cons ?_
              refine h_c ?_
              refine h_cons ?_
              refine h_op (h_c (h_c (h_pow (k := 1000000000) (by decide +kernel) (by decide +kernel) ?_)))
              refine h_nil ?_
              refine ⟨B53, u30, x28, 0, 1000000000, w, rfl, r31, (P.bind).mono (fun x58 P => ?_) (fun _ z => z)⟩
              refine fun v62 B59 H60 s61 r63 => ?_
              replace r19 := r19.mono s61.ex
              replace r23 := r23.mono s61.ex
              replace r27 := r27.mono s61.ex
              replace r31 := r31.mono s61.ex
              replace r35 := r35.mono s61.ex
              replace r39 := r39.mono s61.ex
              replace st := st.go s61 go0
              replace w := s61.ok
              cases r63
              refine h_bl ?_
              refine h_ite (fun c1 => ?_) (fun c1 => ?_)
              · replace P := P.iteT c1
                refine h_and ?_
                refine h_call ?_
                refine h_cons ?_
                refine h_var rfl ?_
                refine h_cons ?_
                refine h_c ?_
                refine h_cons ?_
                refine h_op ?_
                refine h_c ?_
                refine h_op (h_c (h_c (h_pow (k := 1000000000) (by decide +kernel) (by decide +kernel) ?_)))
                refine h_I (.inl ⟨by decide +kernel, by decide +kernel⟩) ?_
                refine h_nil ?_
                refine ⟨B59, u34, x32, 1, (2 * 1000000000), w, rfl, r35, (P.bind).mono (fun x64 P => ?_) (fun _ z => z)⟩
                refine fun v68 B65 H66 s67 r69 => ?_
                replace r19 := r19.mono s67.ex
                replace r23 := r23.mono s67.ex
                replace r27 := r27.mono s67.ex
                replace r31 := r31.mono s67.ex
                replace r35 := r35.mono s67.ex
                replace r39 := r39.mono s67.ex
                replace st := st.go s67 go0
                replace w := s67.ok
                cases r69
                refine h_bl ?_
                refine h_ite (fun c1 => ?_) (fun c1 => ?_)
                · replace P := P.iteT c1
                  refine h_call ?_
                  refine h_cons ?_
                  refine h_var rfl ?_
                  refine h_cons ?_
                  refine h_c ?_
                  refine h_cons ?_
                  refine h_op (h_c (h_c (h_pow (k := 1000000) (by decide +kernel) (by decide +kernel) ?_)))
                  refine h_nil ?_
                  refine ⟨B65, u38, x36, 0, 1000000, w, rfl, r39, (P.bind).mono (fun x70 P => ?_) (fun _ z => z)⟩
                  refine fun v74 B71 H72 s73 r75 => ?_
                  replace r19 := r19.mono s73.ex
                  replace r23 := r23.mono s73.ex
                  replace r27 := r27.mono s73.ex
                  replace r31 := r31.mono s73.ex
                  replace r35 := r35.mono s73.ex
                  replace r39 := r39.mono s73.ex
                  replace st := st.go s73 go0
                  replace w := s73.ok
                  cases r75
                  exact P.ok _ _ _ st (Rep.bl _)
                · replace P := P.iteF c1
                  exact P.ok _ _ _ st (Rep.bl _)
              · replace P := P.iteF c1
                exact P.ok _ _ _ st (Rep.bl _)
theorem ok_is_index {f : Addr} {fd : FuncData}  (F : Fun K "is_index" "is_index" s_is_index f fd) {f_is_whole : Addr} {d_is_whole : FuncData} (g_is_whole : mg "is_whole" = some (.ref f_is_whole)) (k_is_whole : PySem.W.keepIn K (.ref f_is_whole) = true) (b_is_whole : L2.Binds K d_is_whole ["thing", "low", "high"] []) (G_is_whole : FnOk Pr wo K mg base CX0 1 f_is_whole d_is_whole ["thing", "low", "high"] (sp_is_whole K)) {f_is_index_row : Addr} {d_is_index_row : FuncData} (g_is_index_row : mg "is_index_row" = some (.ref f_is_index_row)) (k_is_index_row : PySem.W.keepIn K (.ref f_is_index_row) = true) (b_is_index_row : L2.Binds K d_is_index_row ["thing"] []) (G_is_index_row : FnOk Pr wo K mg base CX0 2 f_is_index_row d_is_index_row ["thing"] (sp_is_index_row K)) (bI_all : mg "all" = none) (bI_isinstance : mg "isinstance" = none) (bI_tuple : mg "tuple" = none) (bI_len : mg "len" = none) (bI_list : mg "list" = none) : FnOk Pr wo K mg base CX0 3 f fd ["thing"] (sp_is_index K) := by
  refine F.ok sc_is_index (fun vs H Q E h => ?_) (fun cdv A outer s H0 vs Q E hr h => ?_)
  · obtain ⟨_, _, _, _, rfl, _⟩ := h; rfl
  · obtain ⟨B0, v_thing, a_thing, w, rfl, r_thing, P⟩ := h
    have w0 := w
    have hu := hu_of hr
    have hu64 := hu64_of hr
    have hu65 := hu65_of hr
    have hr1 : Room 1 _ := hr.mono (by decide)
    have hr2 : Room 2 _ := hr.mono (by decide)
    refine ⟨_, (pss_cons (ps_if (PW.pt (pw_or (pt_not (pt_val (pe_callB (r := rIsi K) call_isi (by rfl) bI_isinstance PyProof.Rows.boot_isinstance (pa_cons (pv 0) (pa_cons (pe_bltn (v := .ty "tuple") (by rfl) bI_tuple Y.boot_tuple rfl) pa_nil))))) (pw_or (pt_cmpR op_ne (pe_callB (r := rLenY K) cr_len (by rfl) bI_len PySem.boot_len (pa_cons (pv 0) pa_nil)) pe_int (nomark _)) (pw_or1 (pt_not (pt_val (pe_call G_is_whole hr1 rfl g_is_whole k_is_whole b_is_whole .nil pass0 (pa_cons (pe_ix (r := rIxT K) ix_tup (pv 0) pe_int (fun _ _ => rfl)) (pa_cons pe_int (pa_cons (pe_op op_pow pe_int pe_int) pa_nil)))))))))) (pss_one (ps_ret pe_bl)) pss_nil)
      (pss_cons (ps_if (PW.pt (pw_or (pt_not (pt_val (pe_callB (r := rIsi K) call_isi (by rfl) bI_isinstance PyProof.Rows.boot_isinstance (pa_cons (pe_ix (r := rIxT K) ix_tup (pv 0) pe_int (fun _ _ => rfl)) (pa_cons (pe_bltn (v := .ty "list") (by rfl) bI_list Y.boot_list rfl) pa_nil))))) (pw_or1 (pt_cmpR op_gt (pe_callB (r := rLenY K) cr_len (by rfl) bI_len PySem.boot_len (pa_cons (pe_ix (r := rIxT K) ix_tup (pv 0) pe_int (fun _ _ => rfl)) pa_nil)) pe_int (nomark _))))) (pss_one (ps_ret pe_bl)) pss_nil)
      (pss_one (ps_ret (pe_callB (r := rAll K) (cr_all rfl) (by rfl) bI_all PyProof.Rows.boot_all (pa_cons (pe_lc (own := [("row", 1)]) rfl sc_is_index.nd (pi_list (pe_ix (r := rIxT K) ix_tup (pv 0) pe_int (fun _ _ => rfl))) (blkOk_by (N := ["thing", "row"]) (sc := defScope s_is_index) (by decide +kernel)) (fun _ _ _ _ _ => (pg_name (i := 1) sc_is_index.nd rfl (by first | exact Or.inl rfl | exact Or.inr rfl))) (fun _ _ _ _ _ => pts_nil) (fun _ _ _ _ _ => (pe_call G_is_index_row hr2 rfl g_is_index_row k_is_index_row b_is_index_row .nil pass0 (pa_cons (pv 1) pa_nil)))) pa_nil)))))), ?_⟩
    unfold m_is_index at P
    have st := Stp.refl (W := []) w
    refine h_seq <| h_if ?_
    refine h_tor ?_
    refine h_tnot ?_
    refine h_tB ?_
    refine h_cb ?_
    refine h_cons ?_
    refine h_var rfl ?_
    refine h_cons ?_
    refine h_c ?_
    refine h_nil ?_
    refine isi (t := "tuple") w (r_thing.mono st.ex) ?_
    refine h_bl ?_
    refine h_iteN (fun c1 => ?_) (fun c1 => ?_)
    · replace P := P.iteF c1
      refine h_iteT ?_
      refine h_ret ?_
      refine h_c ?_
      exact P.ok _ _ _ st (Rep.bl _)
    · replace P := P.iteT c1
      refine h_tor ?_
      refine h_test ?_
      refine h_op ?_
      refine h_cb ?_
      refine h_cons ?_
      refine h_var rfl ?_
      refine h_nil ?_
      obtain ⟨l1, hl2, P⟩ := P.asT
      have rc3 := (r_thing.mono st.ex)
      rw [hl2] at rc3
      obtain ⟨p4, xs5, rfl, hs6, hr7⟩ := Rep.st w rc3
      refine h_lenTl hs6 hr7 ?_
      refine h_c ?_
      refine h_neI ?_
      refine h_bl ?_
      refine h_ite (fun c1 => ?_) (fun c1 => ?_)
      · replace P := P.iteT c1
        refine h_iteT ?_
        refine h_ret ?_
        refine h_c ?_
        exact P.ok _ _ _ st (Rep.bl _)
      · replace P := P.iteF c1
        refine h_tnot ?_
        refine h_tB ?_
        refine h_call ?_
        refine h_cons ?_
        refine h_op ?_
        refine h_var rfl ?_
        refine h_c ?_
        obtain ⟨l8, hl9, P⟩ := P.asT
        have rc10 := (r_thing.mono st.ex)
        rw [hl9] at rc10
        obtain ⟨p11, xs12, hv, hs13, hr14⟩ := Rep.st w rc10
        cases hv
        obtain ⟨x15, hx16, P⟩ := P.ix
        obtain ⟨u17, hu, r18⟩ := RepL.atE hr14 hx16
        refine h_ixT hs13 hu ?_
        refine h_cons ?_
        refine h_c ?_
        refine h_cons ?_
        refine h_op (h_c (h_c (h_pow (k := 1000000000) (by decide +kernel) (by decide +kernel) ?_)))
        refine h_nil ?_
        refine ⟨B0, u17, x15, 0, 1000000000, w, rfl, r18, (P.bind).mono (fun x19 P => ?_) (fun _ z => z)⟩
        refine fun v23 B20 H21 s22 r24 => ?_
        replace r18 := r18.mono s22.ex
        replace st := st.go s22 go0
        replace w := s22.ok
        cases r24
        refine h_bl ?_
        refine h_iteN (fun c1 => ?_) (fun c1 => ?_)
        · replace P := P.iteF c1
          refine h_ret ?_
          refine h_c ?_
          exact P.ok _ _ _ st (Rep.bl _)
        · replace P := P.iteT c1
          refine h_next ?_
          refine h_nx ?_
          refine h_seq <| h_if ?_
          refine h_tor ?_
          refine h_tnot ?_
          refine h_tB ?_
          refine h_cb ?_
          refine h_cons ?_
          refine h_op ?_
          refine h_var rfl ?_
          refine h_c ?_
          obtain ⟨l25, hl26, P⟩ := P.asT
          have rc27 := (r_thing.mono st.ex)
          rw [hl26] at rc27
          obtain ⟨p28, xs29, hv, hs30, hr31⟩ := Rep.st w rc27
          cases hv
          obtain ⟨x32, hx33, P⟩ := P.ix
          obtain ⟨u34, hu, r35⟩ := RepL.atE hr31 hx33
          refine h_ixT hs30 hu ?_
          refine h_cons ?_
          refine h_c ?_
          refine h_nil ?_
          refine isi (t := "list") w r35 ?_
          refine h_bl ?_
          refine h_iteN (fun c1 => ?_) (fun c1 => ?_)
          · replace P := P.iteF c1
            refine h_iteT ?_
            refine h_ret ?_
            refine h_c ?_
            exact P.ok _ _ _ st (Rep.bl _)
          · replace P := P.iteT c1
            refine h_test ?_
            refine h_op ?_
            refine h_cb ?_
            refine h_cons ?_
            refine h_op ?_
            refine h_var rfl ?_
            refine h_c ?_
            obtain ⟨l36, hl37, P⟩ := P.asT
            have rc38 := (r_thing.mono st.ex)
            rw [hl37] at rc38
            obtain ⟨p39, xs40, hv, hs41, hr42⟩ := Rep.st w rc38
            cases hv
            obtain ⟨x43, hx44, P⟩ := P.ix
            obtain ⟨u45, hu, r46⟩ := RepL.atE hr42 hx44
            refine h_ixT hs41 hu ?_
            refine h_nil ?_
            obtain ⟨l47, hl48, P⟩ := P.asL
            have rc49 := r46
            rw [hl48] at rc49
            obtain ⟨p50, xs51, rfl, hs52, hr53⟩ := Rep.sq w rc49
            refine h_len hs52 hr53 ?_
            refine h_c ?_
            refine h_I0 ?_
            refine h_bl ?_
            refine h_ite (fun c1 => ?_) (fun c1 => ?_)
            · replace P := P.iteT c1
              refine h_ret ?_
              refine h_c ?_
              exact P.ok _ _ _ st (Rep.bl _)
            · replace P := P.iteF c1
              refine h_next ?_
              refine h_nx ?_
              refine h_ret ?_
              refine h_cb ?_
              refine h_cons ?_
              refine h_lcE ?_
              refine h_op ?_
              refine h_var rfl ?_
              refine h_c ?_
              obtain ⟨l54, hl55, P⟩ := P.asT
              have rc56 := (r_thing.mono st.ex)
              rw [hl55] at rc56
              obtain ⟨p57, xs58, hv, hs59, hr60⟩ := Rep.st w rc56
              cases hv
              obtain ⟨x61, hx62, P⟩ := P.ix
              obtain ⟨u63, hu, r64⟩ := RepL.atE hr60 hx62
              refine h_ixT hs59 hu ?_
              obtain ⟨l65, hl66, P⟩ := P.asL
              have rc67 := r64
              rw [hl66] at rc67
              obtain ⟨p68, xs69, rfl, hb70, hr71⟩ := Rep.sqB rc67
              refine h_lcL P (w.l hb70) hr71 (fun Dl (acc : List Bool) (a : Unit) H' => ∃ B', Stp [] B20 H21 B' H' ∧ H21 Dl = none ∧ Mu K B' H' Dl (acc.map enc)) (fun Dl hD => ⟨_, Stp.newM w hD, hD, Mu.new w hD .nil⟩) (fun _ _ _ _ j => ?_) ?_ ?_
              · obtain ⟨B81, s82, hD83, m84⟩ := j
                exact s82.ok.l (s82.ex.l hb70)
              · rintro Dl72 N73 T74 x75 v76 acc78 a79 H80 ⟨B81, s82, hD83, m84⟩ r77 hz85 kk86 kn87 P
                have wj89 := w
                have sj88 := s82
                have n90 := st.nn hD83
                replace st := st.go s82 go0
                replace w := s82.ok
                replace r77 := r77.mono s82.ex
                refine h_gname ?_
                refine h_lcT rfl ?_
                refine h_call ?_
                refine h_cons ?_
                refine h_var rfl ?_
                refine h_nil ?_
                refine ⟨B81, v76, x75, w, rfl, r77, (P.bind).mono (fun x91 P => ?_) (fun _ z => z)⟩
                refine fun v95 B92 H93 s94 r96 => ?_
                replace r77 := r77.mono s94.ex
                replace m84 := m84.step s94 nm0
                replace st := st.go s94 go0
                replace sj88 := sj88.go s94 go0
                replace w := s94.ok
                cases r96
                refine h_app (b := x91) w m84 (Rep.bl _) hz85 (fun H97 s98 m84 => ?_)
                replace r77 := r77.mono s98.ex
                replace st := st.go s98 (go1 (.inr n90))
                replace sj88 := sj88.go s98 (go1 (.inr hD83))
                replace w := s98.ok
                exact kk86 x91 () _ ⟨_, sj88, hD83, m84⟩ P.ok
              · rintro Dl72 acc78 a79 H80 ⟨B81, s82, hD83, m84⟩ P
                have n99 := st.nn hD83
                replace st := st.go s82 go0
                replace w := s82.ok
                replace P := P.un2
                obtain ⟨B104, e100, k101, g102, r103⟩ := Mu.keep m84
                replace st := g102 _ _ _ st w0 n99
                replace w := st.ok
                replace r103 : Rep K B104 (.ref Dl72) (enc acc78) := r103
                refine h_nil ?_
                obtain ⟨p105, xs106, hv, hs107, hr108⟩ := Rep.sq w r103
                cases hv
                refine h_all hs107 hr108 ?_
                exact P.ok _ _ _ st (Rep.bl _)
theorem ok_index_body {f : Addr} {fd : FuncData}  (F : Fun K "index_body" "index_body" s_index_body f fd) {C_NoBody : Addr} (T_NoBody : ExcR K mg "NoBody" C_NoBody) {f_all_written : Addr} {d_all_written : FuncData} (g_all_written : mg "all_written" = some (.ref f_all_written)) (k_all_written : PySem.W.keepIn K (.ref f_all_written) = true) (b_all_written : L2.Binds K d_all_written ["numbers"] []) (G_all_written : FnOk Pr wo K mg base CX0 3 f_all_written d_all_written ["numbers"] (sp_all_written K)) {f_is_index : Addr} {d_is_index : FuncData} (g_is_index : mg "is_index" = some (.ref f_is_index)) (k_is_index : PySem.W.keepIn K (.ref f_is_index) = true) (b_is_index : L2.Binds K d_is_index ["thing"] []) (G_is_index : FnOk Pr wo K mg base CX0 3 f_is_index d_is_index ["thing"] (sp_is_index K)) (bI_len : mg "len" = none) (bI_list : mg "list" = none) : FnOk Pr wo K mg base (L2.CX Pr wo) 4 f fd ["index"] (sp_index_body K mg) := by
  refine F.okX sc_index_body (fun vs H Q E h => ?_) (fun cdv A outer s H0 vs Q E hr h => ?_)
  · obtain ⟨_, _, _, _, rfl, _⟩ := h; rfl
  · obtain ⟨B0, v_index, a_index, w, rfl, r_index, P⟩ := h
    have w0 := w
    have hu := hu_of hr
    have hu64 := hu64_of hr
    have hu65 := hu65_of hr
    have hr3 : Room 3 _ := hr.mono (by decide)
    refine ⟨_, (pss_cons (ps_if (pt_not (pt_val (pe_call G_is_index hr3 rfl g_is_index k_is_index b_is_index .nil pass0 (pa_cons (pv 0) pa_nil)))) (pss_one (ps_raise rfl (takes_of rfl rfl rfl rfl) (pmk_own PySem.F.excBase_ValueError T_NoBody.ex T_NoBody.g T_NoBody.kp (raises_own T_NoBody.ec.hs T_NoBody.ty) rfl))) pss_nil)
      (pss_cons (ps_set (i := 1) sc_index_body.nd rfl (by first | exact Or.inl rfl | exact Or.inr rfl) (pe_lst (pa_cons (pe_ix (r := rIxT K) ix_tup (pv 0) pe_int (fun _ _ => rfl)) (pa_cons (pe_callB (r := rLenY K) cr_len (by rfl) bI_len PySem.boot_len (pa_cons (pe_ix (r := rIxT K) ix_tup (pv 0) pe_int (fun _ _ => rfl)) pa_nil)) pa_nil))))
      (pss_cons (ps_for (passes_of rfl) rfl (pi_list (pe_ix (r := rIxT K) ix_tup (pv 0) pe_int (fun _ _ => rfl))) (pg_name (i := 2) sc_index_body.nd rfl (by first | exact Or.inl rfl | exact Or.inr rfl)) (pss_one (ps_expr (pe_bm PySem.F.plainAttrs_list PySem.F.slot_list_extend PySem.F.type_list_extend mt_extend (pv 1) (pa_cons (pe_callTy (r := rListY K) cr_list (by rfl) bI_list Y.boot_list (pa_cons (pv 2) pa_nil)) pa_nil)))))
      (pss_one (ps_ret (pe_call G_all_written hr3 rfl g_all_written k_all_written b_all_written .nil pass0 (pa_cons (pv 1) pa_nil))))))), ?_⟩
    unfold m_index_body at P
    have st := Stp.refl (W := []) w
    refine h_seq <| h_if ?_
    refine h_tnot ?_
    refine h_tB ?_
    refine h_call ?_
    refine h_cons ?_
    refine h_var rfl ?_
    refine h_nil ?_
    refine ⟨B0, v_index, a_index, w, rfl, (r_index.mono st.ex), (P.bind.noErr).mono (fun x1 P => ?_) (fun _ z => z.elim)⟩
    refine fun v5 B2 H3 s4 r6 => ?_
    replace st := st.go s4 go0
    replace w := s4.ok
    cases r6
    refine h_bl ?_
    refine h_iteN (fun c1 => ?_) (fun c1 => ?_)
    · replace P := P.iteF c1
      exact P.err _ _ _ T_NoBody.g st
    · replace P := P.iteT c1
      refine h_next ?_
      refine h_nx ?_
      refine h_set ?_
      refine h_lst ?_
      refine h_cons ?_
      refine h_op ?_
      refine h_var rfl ?_
      refine h_c ?_
      obtain ⟨l7, hl8, P⟩ := P.asT
      have rc9 := (r_index.mono st.ex)
      rw [hl8] at rc9
      obtain ⟨p10, xs11, rfl, hs12, hr13⟩ := Rep.st w rc9
      obtain ⟨x14, hx15, P⟩ := P.ix
      obtain ⟨u16, hu, r17⟩ := RepL.atE hr13 hx15
      refine h_ixT hs12 hu ?_
      refine h_cons ?_
      refine h_cb ?_
      refine h_cons ?_
      refine h_op ?_
      refine h_var rfl ?_
      refine h_c ?_
      obtain ⟨l18, hl19, P⟩ := P.asT
      have rc20 := (r_index.mono st.ex)
      rw [hl19] at rc20
      obtain ⟨p21, xs22, hv, hs23, hr24⟩ := Rep.st w rc20
      cases hv
      obtain ⟨x25, hx26, P⟩ := P.ix
      obtain ⟨u27, hu, r28⟩ := RepL.atE hr24 hx26
      refine h_ixT hs23 hu ?_
      refine h_nil ?_
      obtain ⟨l29, hl30, P⟩ := P.asL
      have rc31 := r28
      rw [hl30] at rc31
      obtain ⟨p32, xs33, rfl, hs34, hr35⟩ := Rep.sq w rc31
      refine h_len hs34 hr35 ?_
      refine h_nil ?_
      obtain ⟨i36, hi37, P⟩ := P.asI
      have rc38 := r17
      rw [hi37] at rc38
      cases rc38
      refine h_newM w (ds := (([i36, (l29.length : Int)] : List Int)).map enc) (K := K) (.cons (Rep.int _) (.cons (Rep.int _) .nil)) (fun p39 H40 hn43 s41 m42 => ?_) (by show 2 ≤ sizeLine; decide)
      have n44 := st.nn hn43
      replace st := st.go s41 go0
      replace w := s41.ok
      refine h_seq ?_
      refine h_forE ?_
      refine h_op ?_
      refine h_var rfl ?_
      refine h_c ?_
      obtain ⟨l45, hl46, P⟩ := P.asT
      have rc47 := (r_index.mono st.ex)
      rw [hl46] at rc47
      obtain ⟨p48, xs49, hv, hs50, hr51⟩ := Rep.st w rc47
      cases hv
      obtain ⟨x52, hx53, P⟩ := P.ix
      obtain ⟨u54, hu, r55⟩ := RepL.atE hr51 hx53
      refine h_ixT hs50 hu ?_
      obtain ⟨l56, hl57, P⟩ := P.asL
      have rc58 := r55
      rw [hl57] at rc58
      obtain ⟨p59, xs60, rfl, hb61, hr62⟩ := Rep.sqB rc58
      have wj64 := w
      have sj63 := Stp.refl (W := [p39]) w
      refine h_forL P (w.l hb61) hr62 (fun (a : (List Int)) σ' H' => ∃ (B' : Hp) (o_row : Option V), Stp [p39] B2 H40 B' H' ∧ σ' = [some ((.ref p10)), some ((.ref p39)), o_row] ∧ Mu K B' H' p39 (a.map enc)) ⟨_, _, sj63, rfl, m42⟩ (fun _ _ _ j => ?_) ?_ ?_
      · obtain ⟨B74, o77, s76, rfl, m42⟩ := j
        exact s76.ok.l (s76.ex.l hb61)
      · rintro N65 T66 x71 v72 a70 _ H75 ⟨B74, o77, s76, rfl, m42⟩ r73 kk67 kr68 kb69 P
        replace st := st.go s76 (go1 (.inr n44))
        replace w := s76.ok
        have sj63 := s76
        replace r73 := r73.mono sj63.ex
        refine h_gname ?_
        refine h_drop ?_
        refine h_bm ?_
        refine h_var rfl ?_
        refine h_bmL m42 ?_
        refine h_cons ?_
        refine h_cb ?_
        refine h_cons ?_
        refine h_var rfl ?_
        refine h_nil ?_
        obtain ⟨l78, hn79, hl80, P⟩ := P.asIs
        have rc81 := r73
        rw [hl80] at rc81
        obtain ⟨p82, xs83, rfl, hs84, hr85⟩ := Rep.st w rc81
        refine h_listT hs84 ?_
        refine h_nwM w (ds := (l78).map enc) (K := K) hr85 (fun p86 H87 hn90 s88 m89 => ?_) 
        have n91 := st.nn hn90
        have n92 := sj63.nn hn90
        have ne93 := Mu.ne m42 hn90
        replace m42 := m42.step s88 nm0
        replace r73 := r73.mono s88.ex
        replace st := st.go s88 go0
        replace sj63 := sj63.go s88 go0
        replace w := s88.ok
        refine h_nil ?_
        obtain ⟨gd, P⟩ := P.guard
        refine h_extend w m42 m89 gd (fun H94 s95 m42 => ?_)
        replace r73 := r73.mono s95.ex
        replace st := st.go s95 (go1 (.inr n44))
        replace sj63 := sj63.go s95 (go1 (.inl (by simp)))
        replace w := s95.ok
        refine h_nx ?_
        exact kk67 (a70 ++ l78) _ _ ⟨_, _, sj63, rfl, m42⟩ P.ok
      · rintro a96 _ H98 ⟨B97, o100, s99, rfl, m42⟩ P
        replace st := st.go s99 (go1 (.inr n44))
        replace w := s99.ok
        refine h_nx ?_
        refine h_ret ?_
        refine h_call ?_
        refine h_cons ?_
        refine h_var rfl ?_
        refine h_nil ?_
        refine ⟨B97, (.ref p39), a96, w, rfl, (m42.bor nm0), (P.bind.noErr).mono (fun x101 P => ?_) (fun _ z => z.elim)⟩
        refine fun p107 B102 H103 s104 hn108 m109 => ?_
        have n111 := st.nn hn108
        have ne112 := Mu.ne m42 hn108
        replace m42 := m42.step s104 nm0
        replace st := st.go s104 go0
        replace w := s104.ok
        exact P.ok _ _ _ st n111 m109
theorem ok_Numbers__number {f : Addr} {fd : FuncData}  (F : Fun K "number" "Numbers.number" s_Numbers__number f fd) {C_NoBody : Addr} (T_NoBody : ExcR K mg "NoBody" C_NoBody) {C_Numbers : Addr} (T_Numbers : KI K mg "Numbers" C_Numbers) (n_Numbers_row : NoAttr K C_Numbers "row") (n_Numbers_at : NoAttr K C_Numbers "at") {f_number_at : Addr} {d_number_at : FuncData} (g_number_at : mg "number_at" = some (.ref f_number_at)) (k_number_at : PySem.W.keepIn K (.ref f_number_at) = true) (b_number_at : L2.Binds K d_number_at ["row", "at"] []) (G_number_at : FnOk Pr wo K mg base CX0 1 f_number_at d_number_at ["row", "at"] (sp_number_at K)) : FnOk Pr wo K mg base (L2.CX Pr wo) 2 f fd ["self", "low", "high"] (sp_Numbers__number K mg C_Numbers) := by
  refine F.okX sc_Numbers__number (fun vs H Q E h => ?_) (fun cdv A outer s H0 vs Q E hr h => ?_)
  · obtain ⟨_, _, _, _, _, _, rfl, _⟩ := h; rfl
  · obtain ⟨B0, p_self, a_self, a_low, a_high, w, rfl, m_self, P⟩ := h
    have w0 := w
    have hu := hu_of hr
    have hu64 := hu64_of hr
    have hu65 := hu65_of hr
    have hr1 : Room 1 _ := hr.mono (by decide)
    refine ⟨_, (pss_cons (ps_set (i := 3) sc_Numbers__number.nd rfl (by first | exact Or.inl rfl | exact Or.inr rfl) (pe_call G_number_at hr1 rfl g_number_at k_number_at b_number_at .nil pass0 (pa_cons (pe_fld (pv 0) rfl) (pa_cons (pe_fld (pv 0) rfl) pa_nil))))
      (pss_cons (ps_if (PW.pt (pw_or (pt_cmpR op_isNn (pv 3) pe_non (nomark _)) (pw_or1 (pt_not (pt_chain op_le op_le (pv 1) (pe_ix (r := rIxT K) ix_tup (pv 3) pe_int (fun _ _ => rfl)) (pv 2)))))) (pss_one (ps_raise rfl (takes_of rfl rfl rfl rfl) (pmk_own PySem.F.excBase_ValueError T_NoBody.ex T_NoBody.g T_NoBody.kp (raises_own T_NoBody.ec.hs T_NoBody.ty) rfl))) pss_nil)
      (pss_cons (ps_fld (pv 0) (pe_ix (r := rIxT K) ix_tup (pv 3) pe_int (fun _ _ => rfl)) rfl)
      (pss_one (ps_ret (pe_ix (r := rIxT K) ix_tup (pv 3) pe_int (fun _ _ => rfl))))))), ?_⟩
    unfold m_Numbers__number at P
    have st := Stp.refl (W := [p_self]) w
    refine h_set ?_
    refine h_call ?_
    refine h_cons ?_
    refine h_fldE ?_
    refine h_var rfl ?_
    obtain ⟨x1, hx2, P⟩ := P.nth
    refine h_fldN (k := 0) m_self T_Numbers n_Numbers_row hx2 (fun u3 r4 => ?_)
    obtain ⟨x5, hx6, P⟩ := P.asD
    have rc7 := r4
    rw [hx6] at rc7
    refine h_cons ?_
    refine h_fldE ?_
    refine h_var rfl ?_
    obtain ⟨x8, hx9, P⟩ := P.nth
    refine h_fldN (k := 1) m_self T_Numbers n_Numbers_at hx9 (fun u10 r11 => ?_)
    obtain ⟨i12, hi13, P⟩ := P.asI
    have rc14 := r11
    rw [hi13] at rc14
    cases rc14
    refine h_nil ?_
    refine ⟨B0, u3, x5, i12, w, rfl, rc7, (P.bind.noErr).mono (fun x15 P => ?_) (fun _ z => z.elim)⟩
    refine fun v19 B16 H17 s18 r20 => ?_
    replace m_self := m_self.step s18 nm0
    replace rc7 := rc7.mono s18.ex
    replace st := st.go s18 go0
    replace w := s18.ok
    refine h_seq <| h_if ?_
    refine h_tor ?_
    refine h_test ?_
    refine h_op ?_
    refine h_var rfl ?_
    refine h_c ?_
    refine h_isN r20 ?_
    refine h_bl ?_
    refine h_ite (fun c1 => ?_) (fun c1 => ?_)
    · replace P := P.iteT c1
      refine h_iteT ?_
      exact P.err _ _ _ T_NoBody.g st
    · replace P := P.iteF c1
      refine h_tnot ?_
      refine h_test ?_
      refine h_chain ?_
      refine h_var rfl ?_
      refine h_op ?_
      refine h_var rfl ?_
      refine h_c ?_
      obtain ⟨x21, hx22, P⟩ := P.some
      have rc23 := r20
      rw [hx22] at rc23
      replace rc23 : Rep K B16 v19 (enc x21) := rc23
      obtain ⟨p24, xs25, rfl, hs26, hr27⟩ := Rep.st w rc23
      obtain ⟨u28, hu, r29⟩ := RepL.at hr27 (i := 0) rfl
      refine h_ixT hs26 hu ?_
      cases r29
      refine h_I0 ?_
      refine h_bl ?_
      refine h_ite (fun c1 => ?_) (fun c1 => ?_)
      · replace P := P.iteT c1
        refine h_var rfl ?_
        refine h_I0 ?_
        refine h_bl ?_
        refine h_iteN (fun c1 => ?_) (fun c1 => ?_)
        · replace P := P.iteF c1
          exact P.err _ _ _ T_NoBody.g st
        · replace P := P.iteT c1
          refine h_next ?_
          refine h_nx ?_
          refine h_seq ?_
          refine h_sfldE ?_
          refine h_op ?_
          refine h_var rfl ?_
          refine h_c ?_
          obtain ⟨x30, hx31, P⟩ := P.some
          have rc32 := r20
          rw [hx31] at rc32
          replace rc32 : Rep K B16 (.ref p24) (enc x30) := rc32
          obtain ⟨p33, xs34, hv, hs35, hr36⟩ := Rep.st w rc32
          cases hv
          obtain ⟨u37, hu, r38⟩ := RepL.at hr36 (i := 1) rfl
          refine h_ixT hs35 hu ?_
          cases r38
          refine h_var rfl ?_
          refine h_sfldN (k := 1) (b := (enc (x30.b : Int))) w m_self T_Numbers n_Numbers_at (Rep.int _) (fun H39 s40 m_self => ?_)
          replace r20 := r20.mono s40.ex
          replace st := st.go s40 (go1 (.inl (by simp)))
          replace w := s40.ok
          refine h_nx ?_
          refine h_ret ?_
          refine h_op ?_
          refine h_var rfl ?_
          refine h_c ?_
          obtain ⟨x41, hx42, P⟩ := P.some
          have rc43 := r20
          rw [hx42] at rc43
          replace rc43 : Rep K B16 (.ref p24) (enc x41) := rc43
          obtain ⟨p44, xs45, hv, hs46, hr47⟩ := Rep.st w rc43
          cases hv
          obtain ⟨u48, hu, r49⟩ := RepL.at hr47 (i := 0) rfl
          refine h_ixT hs46 hu ?_
          cases r49
          exact P.ok _ _ _ st m_self (Rep.int _)
      · replace P := P.iteF c1
        refine h_bl ?_
        refine h_iteNF ?_
        exact P.err _ _ _ T_NoBody.g st
theorem ok_index_row_in {f : Addr} {fd : FuncData}  (F : Fun K "index_row_in" "index_row_in" s_index_row_in f fd) {C_Numbers : Addr} (T_Numbers : KI K mg "Numbers" C_Numbers) (L_Numbers__number : MAlt Pr wo K mg base (L2.CX Pr wo) 2 "number" C_Numbers (sp_Numbers__number K mg C_Numbers)) (bI_tuple : mg "tuple" = none) (bI_range : mg "range" = none) : FnOk Pr wo K mg base (L2.CX Pr wo) 3 f fd ["numbers"] (sp_index_row_in K mg C_Numbers) := by
  refine F.okX sc_index_row_in (fun vs H Q E h => ?_) (fun cdv A outer s H0 vs Q E hr h => ?_)
  · obtain ⟨_, _, _, _, rfl, _⟩ := h; rfl
  · obtain ⟨B0, p_numbers, a_numbers, w, rfl, m_numbers, P⟩ := h
    have w0 := w
    have hu := hu_of hr
    have hu64 := hu64_of hr
    have hu65 := hu65_of hr
    have hr2 : Room 2 _ := hr.mono (by decide)
    refine ⟨_, (pss_one (ps_ret (pe_callTy (r := rTupY K) cr_tuple (by rfl) bI_tuple Y.boot_tuple (pa_cons (pe_lcX (takes_of rfl rfl rfl rfl) rfl rfl (own := [("k", 1)]) rfl sc_index_row_in.nd (pi_range1 (by rfl) bI_range (pa_cons pe_int pa_nil)) (blkOk_by (N := ["numbers", "k"]) (sc := defScope s_index_row_in) (by decide +kernel)) (fun _ _ _ _ _ => (pg_name (i := 1) sc_index_row_in.nd rfl (by first | exact Or.inl rfl | exact Or.inr rfl))) (fun _ _ _ _ _ => pts_nil) (fun _ _ _ _ _ _ _ hpx => (pe_methP (pv 0) (AOne.alt L_Numbers__number) hr2 (fun σ => hpx σ) (pa_cons pe_int (pa_cons (pe_op op_mul pe_int (pe_op op_pow pe_int pe_int)) pa_nil))))) pa_nil)))), ?_⟩
    unfold m_index_row_in at P
    have st := Stp.refl (W := [p_numbers]) w
    refine h_ret ?_
    refine h_cb ?_
    refine h_cons ?_
    refine h_lcR1E ?_
    refine h_cons ?_
    refine h_c ?_
    refine h_nil ?_
    have gz1 : -(2 ^ 62) ≤ (6 : Int) := by decide
    refine h_lcR1 P (fun Dl (acc : List Int) (a : (List D)) H' => ∃ B', Stp [p_numbers] B0 H0 B' H' ∧ H0 Dl = none ∧ Mu K B' H' Dl (acc.map enc) ∧ p_numbers ≠ Dl ∧ MuN K C_Numbers ["row", "at"] B' H' p_numbers a) (fun Dl hD => ⟨_, Stp.newM w hD, hD, Mu.new w hD .nil, MuN.ne m_numbers hD, m_numbers.step (Stp.newM (W := []) w hD) nm0⟩) ?_ ?_ gz1
    · rintro Dl2 N3 T4 x5 acc8 a9 H10 ⟨B11, s12, hD13, m14, ne18, m_numbers⟩ hlox5 hhix5 hz15 kk16 kn17 P
      have wj20 := w
      have sj19 := s12
      have n21 := st.nn hD13
      replace st := st.go s12 (go1 (.inl (by simp)))
      replace w := s12.ok
      refine h_gname ?_
      refine h_lcT rfl ?_
      refine h_methE ?_
      refine h_var rfl ?_
      refine MuN.meth (m := "number") m_numbers ?_
      refine h_cons ?_
      refine h_c ?_
      refine h_cons ?_
      refine h_op ?_
      refine h_c ?_
      refine h_op (h_c (h_c (h_pow (k := 1000000000) (by decide +kernel) (by decide +kernel) ?_)))
      refine h_I (.inl ⟨by decide +kernel, by decide +kernel⟩) ?_
      refine h_nil ?_
      refine ⟨B11, p_numbers, a9, 0, (2 * 1000000000), w, rfl, m_numbers, Post.mono2 P.bind (fun e28 P => ?_) (fun x22 P => ?_)⟩
      · skip
        exact fun C B' H' g s => P C B' H' g (st.go s (go1 (.inl (by simp))))
      refine fun v26 B23 H24 s25 m_numbers r27 => ?_
      replace m14 := m14.step s25 (nm1 ne18.symm)
      replace st := st.go s25 (go1 (.inl (by simp)))
      replace sj19 := sj19.go s25 (go1 (.inl (by simp)))
      replace w := s25.ok
      cases r27
      refine h_app (b := x22.1) w m14 (Rep.int _) hz15 (fun H29 s30 m14 => ?_)
      replace m_numbers := m_numbers.step s30 (nm1 ne18)
      replace st := st.go s30 (go1 (.inr n21))
      replace sj19 := sj19.go s30 (go1 (.inr hD13))
      replace w := s30.ok
      exact kk16 x22.1 x22.2 _ ⟨_, sj19, hD13, m14, ne18, m_numbers⟩ P.ok
    · rintro Dl2 acc8 a9 H10 ⟨B11, s12, hD13, m14, ne18, m_numbers⟩ P
      have n31 := st.nn hD13
      replace st := st.go s12 (go1 (.inl (by simp)))
      replace w := s12.ok
      replace P := P.un2
      obtain ⟨B36, e32, k33, g34, r35⟩ := Mu.keep m14
      replace st := g34 _ _ _ st w0 n31
      replace m_numbers := m_numbers.kp e32 k33 ne18
      replace w := st.ok
      replace r35 : Rep K B36 (.ref Dl2) (enc acc8) := r35
      refine h_nil ?_
      obtain ⟨p37, xs38, hv, hs39, hr40⟩ := Rep.sq w r35
      cases hv
      refine h_tupL hs39 (h_nwT w (K := K) hr40 (fun p41 B42 H43 s44 r45 => ?_))
      replace m_numbers := m_numbers.step s44 nm0
      replace st := st.go s44 go0
      replace w := s44.ok
      exact P.ok _ _ _ st m_numbers r45
theorem ok_index_in {f : Addr} {fd : FuncData}  (F : Fun K "index_in" "index_in" s_index_in f fd) {C_Numbers : Addr} (T_Numbers : KI K mg "Numbers" C_Numbers) (L_Numbers__number : MAlt Pr wo K mg base (L2.CX Pr wo) 2 "number" C_Numbers (sp_Numbers__number K mg C_Numbers)) {f_index_row_in : Addr} {d_index_row_in : FuncData} (g_index_row_in : mg "index_row_in" = some (.ref f_index_row_in)) (k_index_row_in : PySem.W.keepIn K (.ref f_index_row_in) = true) (b_index_row_in : L2.Binds K d_index_row_in ["numbers"] []) (G_index_row_in : FnOk Pr wo K mg base (L2.CX Pr wo) 3 f_index_row_in d_index_row_in ["numbers"] (sp_index_row_in K mg C_Numbers)) (bI_range : mg "range" = none) : FnOk Pr wo K mg base (L2.CX Pr wo) 4 f fd ["numbers"] (sp_index_in K mg C_Numbers) := by
  refine F.okX sc_index_in (fun vs H Q E h => ?_) (fun cdv A outer s H0 vs Q E hr h => ?_)
  · obtain ⟨_, _, _, _, rfl, _⟩ := h; rfl
  · obtain ⟨B0, p_numbers, a_numbers, w, rfl, m_numbers, P⟩ := h
    have w0 := w
    have hu := hu_of hr
    have hu64 := hu64_of hr
    have hu65 := hu65_of hr
    have hr2 : Room 2 _ := hr.mono (by decide)
    have hr3 : Room 3 _ := hr.mono (by decide)
    refine ⟨_, (pss_cons (ps_set (i := 1) sc_index_in.nd rfl (by first | exact Or.inl rfl | exact Or.inr rfl) (pe_methP (pv 0) (AOne.alt L_Numbers__number) hr2 (fun σ => passAt (takes_of rfl rfl rfl rfl) σ) (pa_cons pe_int (pa_cons (pe_op op_pow pe_int pe_int) pa_nil))))
      (pss_one (ps_ret (pe_tup (pa_cons (pv 1) (pa_cons (pe_lcX (takes_of rfl rfl rfl rfl) rfl rfl (own := [("k", 2)]) rfl sc_index_in.nd (pi_range1 (by rfl) bI_range (pa_cons (pe_methP (pv 0) (AOne.alt L_Numbers__number) hr2 (fun σ => passAt (takes_of rfl rfl rfl rfl) σ) (pa_cons pe_int (pa_cons pe_int pa_nil))) pa_nil)) (blkOk_by (N := ["numbers", "seal", "k"]) (sc := defScope s_index_in) (by decide +kernel)) (fun _ _ _ _ _ => (pg_name (i := 2) sc_index_in.nd rfl (by first | exact Or.inl rfl | exact Or.inr rfl))) (fun _ _ _ _ _ => pts_nil) (fun _ _ _ _ _ _ _ hpx => (pe_callS G_index_row_in hr3 rfl g_index_row_in k_index_row_in b_index_row_in (fun σ => hpx σ) (pa_cons (pv 0) pa_nil)))) pa_nil)))))), ?_⟩
    unfold m_index_in at P
    have st := Stp.refl (W := [p_numbers]) w
    refine h_set ?_
    refine h_methE ?_
    refine h_var rfl ?_
    refine MuN.meth (m := "number") m_numbers ?_
    refine h_cons ?_
    refine h_c ?_
    refine h_cons ?_
    refine h_op (h_c (h_c (h_pow (k := 1000000000) (by decide +kernel) (by decide +kernel) ?_)))
    refine h_nil ?_
    refine ⟨B0, p_numbers, a_numbers, 0, 1000000000, w, rfl, m_numbers, Post.mono2 P.bind (fun e7 P => ?_) (fun x1 P => ?_)⟩
    · skip
      exact fun C B' H' g s => P C B' H' g (st.go s (go1 (.inl (by simp))))
    refine fun v5 B2 H3 s4 m_numbers r6 => ?_
    replace st := st.go s4 (go1 (.inl (by simp)))
    replace w := s4.ok
    cases r6
    refine h_ret ?_
    refine h_tup ?_
    refine h_cons ?_
    refine h_var rfl ?_
    refine h_cons ?_
    refine h_lcR1E ?_
    refine h_cons ?_
    refine h_methE ?_
    refine h_var rfl ?_
    refine MuN.meth (m := "number") m_numbers ?_
    refine h_cons ?_
    refine h_c ?_
    refine h_cons ?_
    refine h_c ?_
    refine h_nil ?_
    refine ⟨B2, p_numbers, x1.2, 0, 1600, w, rfl, m_numbers, Post.mono2 P.bind (fun e14 P => ?_) (fun x8 P => ?_)⟩
    · skip
      exact fun C B' H' g s => P C B' H' g (st.go s (go1 (.inl (by simp))))
    refine fun v12 B9 H10 s11 m_numbers r13 => ?_
    replace st := st.go s11 (go1 (.inl (by simp)))
    replace w := s11.ok
    cases r13
    refine h_nil ?_
    obtain ⟨gz15, P⟩ := P.guard
    refine h_lcR1 P (fun Dl (acc : List D) (a : (List D)) H' => ∃ B', Stp [p_numbers] B9 H10 B' H' ∧ H10 Dl = none ∧ Mu K B' H' Dl (acc.map enc) ∧ p_numbers ≠ Dl ∧ MuN K C_Numbers ["row", "at"] B' H' p_numbers a) (fun Dl hD => ⟨_, Stp.newM w hD, hD, Mu.new w hD .nil, MuN.ne m_numbers hD, m_numbers.step (Stp.newM (W := []) w hD) nm0⟩) ?_ ?_ gz15
    · rintro Dl16 N17 T18 x19 acc22 a23 H24 ⟨B25, s26, hD27, m28, ne32, m_numbers⟩ hlox19 hhix19 hz29 kk30 kn31 P
      have wj34 := w
      have sj33 := s26
      have n35 := st.nn hD27
      replace st := st.go s26 (go1 (.inl (by simp)))
      replace w := s26.ok
      refine h_gname ?_
      refine h_lcT rfl ?_
      refine h_callS ?_
      refine h_cons ?_
      refine h_var rfl ?_
      refine h_nil ?_
      refine ⟨B25, p_numbers, a23, w, rfl, m_numbers, Post.mono2 P.bind (fun e42 P => ?_) (fun x36 P => ?_)⟩
      · skip
        exact fun C B' H' g s => P C B' H' g (st.go s (go1 (.inl (by simp))))
      refine fun v40 B37 H38 s39 m_numbers r41 => ?_
      replace m28 := m28.step s39 (nm1 ne32.symm)
      replace st := st.go s39 (go1 (.inl (by simp)))
      replace sj33 := sj33.go s39 (go1 (.inl (by simp)))
      replace w := s39.ok
      refine h_app (b := x36.1) w m28 r41 hz29 (fun H43 s44 m28 => ?_)
      replace m_numbers := m_numbers.step s44 (nm1 ne32)
      replace st := st.go s44 (go1 (.inr n35))
      replace sj33 := sj33.go s44 (go1 (.inr hD27))
      replace w := s44.ok
      exact kk30 x36.1 x36.2 _ ⟨_, sj33, hD27, m28, ne32, m_numbers⟩ P.ok
    · rintro Dl16 acc22 a23 H24 ⟨B25, s26, hD27, m28, ne32, m_numbers⟩ P
      have n45 := st.nn hD27
      replace st := st.go s26 (go1 (.inl (by simp)))
      replace w := s26.ok
      replace P := P.un2
      refine h_nil ?_
      obtain ⟨gd, P⟩ := P.guard
      obtain ⟨B50, e46, k47, g48, r49, rn51⟩ := Mu.keepN m28 gd n45
      replace st := g48 _ _ _ st w0 n45
      replace m_numbers := m_numbers.kp e46 k47 ne32
      replace w := st.ok
      replace r49 : Rep K B50 (.ref Dl16) (enc acc22) := r49
      refine h_newTN w (K := K) (.cons (Rep.int _) (.cons r49 .nil)) (.cons (.sc (Rep.int _) rfl) (.cons rn51 .nil)) (fun p52 B53 H54 s55 r56 rn57 => ?_) (by show 2 ≤ sizeLine; decide)
      replace m_numbers := m_numbers.step s55 nm0
      replace st := st.go s55 go0
      replace w := s55.ok
      replace r56 : Rep K B53 (.ref p52) (enc (⟨x1.1, acc22⟩ : (Tp2 Int (List D)))) := r56
      exact P.ok _ _ _ st m_numbers rn57
theorem ok_Numbers____init__ {f : Addr} {fd : FuncData} (F : Fun K "__init__" "Numbers.__init__" s_Numbers____init__ f fd) : FnOk Pr wo K mg base CX0 1 f fd ["self", "row"] (spInitC K ["row", "at"] [.int 0]) := by
  refine F.ok sc_Numbers____init__ (fun vs H Q E h => ?_) (fun cdv A outer s H vs Q E hr h => ?_)
  · obtain ⟨_, _, _, us, rfl, hl, _⟩ := h
    simp only [List.length_cons, List.length_nil] at hl ⊢; omega
  · obtain ⟨C, p, dx, us, rfl, hl, hp, hc, lo, k⟩ := h
    have hl2 : us.length = 1 := by simp only [List.length_cons, List.length_nil] at hl; omega
    match us, hl2 with
    | [u1], _ =>
      refine ⟨_, (pss_cons (ps_fld (pv 0) (pv 1) rfl) (pss_one (ps_fld (pv 0) pe_int rfl))), ?_⟩
      have e1 : putF "row" u1 ([] : List (Str × V)) = ([("row", u1)] : List (Str × V)) := putE
      have h1 : (upd H p (HO.ins C dx (putF "row" u1 ([] : List (Str × V))))) p = some (HO.ins C dx ([("row", u1)] : List (Str × V))) := by rw [e1]; exact upd_same
      have e2 : putF "at" (.int 0) ([("row", u1)] : List (Str × V)) = ([("row", u1), ("at", (.int 0))] : List (Str × V)) := (putS (by decide +kernel) putE)
      have eH : (upd (upd H p (HO.ins C dx (putF "row" u1 ([] : List (Str × V))))) p (HO.ins C dx (putF "at" (.int 0) ([("row", u1)] : List (Str × V))))) = upd H p (HO.ins C dx ([("row", u1), ("at", (.int 0))] : List (Str × V))) := by rw [e1, e2, L2.upd_upd]
      have k2 : Q .non (upd H p (HO.ins C dx ([("row", u1), ("at", (.int 0))] : List (Str × V)))) := k
      rw [← eH] at k2
      exact ⟨_, rfl, _, rfl, p, C, dx, ([] : List (Str × V)), rfl, hp, hc, lo.1, (by show 0 < 1000; decide), _, rfl, p, C, dx, ([("row", u1)] : List (Str × V)), rfl, h1, hc, lo.2.1, (by show 1 < 1000; decide), k2⟩
theorem ok_read_as__index_in__index_body {f : Addr} {fd : FuncData}  (F : Fun K "read_as" "read_as" s_read_as__index_in__index_body f fd) {C_NoBody : Addr} (T_NoBody : ExcR K mg "NoBody" C_NoBody) {C_Numbers : Addr} (T_Numbers : KI K mg "Numbers" C_Numbers) {fi_Numbers : Addr} {di_Numbers : FuncData} (M_Numbers : Mk K C_Numbers fi_Numbers) (lo_Numbers : LaysOk K C_Numbers ["row", "at"]) (bi_Numbers : L2.Binds K di_Numbers ["self", "row"] []) (Gi_Numbers : FnOk Pr wo K mg base CX0 1 fi_Numbers di_Numbers ["self", "row"] (spInitC K ["row", "at"] [.int 0])) {f_index_in : Addr} {d_index_in : FuncData} (g_index_in : mg "index_in" = some (.ref f_index_in)) (k_index_in : PySem.W.keepIn K (.ref f_index_in) = true) (b_index_in : L2.Binds K d_index_in ["numbers"] []) (G_index_in : FnOk Pr wo K mg base (L2.CX Pr wo) 4 f_index_in d_index_in ["numbers"] (sp_index_in K mg C_Numbers)) {f_is_bytes : Addr} {d_is_bytes : FuncData} (g_is_bytes : mg "is_bytes" = some (.ref f_is_bytes)) (k_is_bytes : PySem.W.keepIn K (.ref f_is_bytes) = true) (b_is_bytes : L2.Binds K d_is_bytes ["thing"] []) (G_is_bytes : FnOk Pr wo K mg base CX0 2 f_is_bytes d_is_bytes ["thing"] (sp_is_bytes K)) {f_index_body : Addr} {d_index_body : FuncData} (g_index_body : mg "index_body" = some (.ref f_index_body)) (k_index_body : PySem.W.keepIn K (.ref f_index_body) = true) (b_index_body : L2.Binds K d_index_body ["index"] []) (G_index_body : FnOk Pr wo K mg base (L2.CX Pr wo) 4 f_index_body d_index_body ["index"] (sp_index_body K mg)) : FnOk Pr wo K mg base (L2.CX Pr wo) 5 f fd ["body", "thing_in", "body_of"] (sp_read_as__index_in__index_body K mg f_index_in f_index_body) := by
  refine F.okX sc_read_as__index_in__index_body (fun vs H Q E h => ?_) (fun cdv A outer s H0 vs Q E hr h => ?_)
  · obtain ⟨_, _, _, _, rfl, _⟩ := h; rfl
  · obtain ⟨B0, v_body, a_body, w, rfl, r_body, P⟩ := h
    have w0 := w
    have hu := hu_of hr
    have hu64 := hu64_of hr
    have hu65 := hu65_of hr
    have hr2 : Room 2 _ := hr.mono (by decide)
    have hr4 : Room 4 _ := hr.mono (by decide)
    refine ⟨_, (pss_cons (ps_if (pt_not (pt_val (pe_call G_is_bytes hr2 rfl g_is_bytes k_is_bytes b_is_bytes .nil pass0 (pa_cons (pv 0) pa_nil)))) (pss_one (ps_raise rfl (takes_of rfl rfl rfl rfl) (pmk_own PySem.F.excBase_ValueError T_NoBody.ex T_NoBody.g T_NoBody.kp (raises_own T_NoBody.ec.hs T_NoBody.ty) rfl))) pss_nil)
      (pss_cons (ps_set (i := 3) sc_read_as__index_in__index_body.nd rfl (by first | exact Or.inl rfl | exact Or.inr rfl) (pe_callLS 1 G_index_in hr4 k_index_in b_index_in .nil (fun σ => passAt (takes_of rfl rfl rfl rfl) σ) (pa_cons (pe_make M_Numbers Gi_Numbers hr2 rfl T_Numbers.g bi_Numbers .nil pass0 (pa_cons (pv 0) pa_nil)) pa_nil)))
      (pss_cons (ps_if (pt_cmpR (r := rNeD K) (op_neD hu64) (pe_callLS 2 G_index_body hr4 k_index_body b_index_body .nil (fun σ => passAt (takes_of rfl rfl rfl rfl) σ) (pa_cons (pv 3) pa_nil)) (pv 0) (nomark _)) (pss_one (ps_raise rfl (takes_of rfl rfl rfl rfl) (pmk_own PySem.F.excBase_ValueError T_NoBody.ex T_NoBody.g T_NoBody.kp (raises_own T_NoBody.ec.hs T_NoBody.ty) rfl))) pss_nil)
      (pss_one (ps_ret (pv 3)))))), ?_⟩
    unfold m_read_as__index_in__index_body at P
    have st := Stp.refl (W := []) w
    refine h_seq <| h_if ?_
    refine h_tnot ?_
    refine h_tB ?_
    refine h_call ?_
    refine h_cons ?_
    refine h_var rfl ?_
    refine h_nil ?_
    refine ⟨B0, v_body, a_body, w, rfl, (r_body.mono st.ex), (P.bind.noErr).mono (fun x1 P => ?_) (fun _ z => z.elim)⟩
    refine fun v5 B2 H3 s4 r6 => ?_
    replace st := st.go s4 go0
    replace w := s4.ok
    cases r6
    refine h_bl ?_
    refine h_iteN (fun c1 => ?_) (fun c1 => ?_)
    · replace P := P.iteF c1
      exact P.err _ _ _ T_NoBody.g st
    · replace P := P.iteT c1
      refine h_next ?_
      refine h_nx ?_
      refine h_set ?_
      refine h_callLS rfl ?_
      refine h_cons ?_
      refine h_makeE ?_
      refine h_cons ?_
      refine h_var rfl ?_
      refine h_nil ?_
      obtain ⟨x7, hx8, P⟩ := P.asD
      have rc9 := (r_body.mono st.ex)
      rw [hx8] at rc9
      refine h_makeN (xs := [v_body]) (sp := spInitC K ["row", "at"] [.int 0]) (us := [v_body, .int 0]) (ns := ["row", "at"]) (ds := [enc (x7 : (List Int)), .int 0]) (C := C_Numbers) w rfl (.cons rc9 (.cons (Rep.int _) .nil)) (fun x dx H hx Q q => ⟨C_Numbers, x, dx, [v_body], rfl, rfl, hx, T_Numbers.c, lo_Numbers, q⟩) (fun p10 B11 H12 s13 hn14 m15 => ?_)
      have n16 := st.nn hn14
      replace st := st.go s13 go0
      replace w := s13.ok
      refine h_nil ?_
      refine ⟨B11, p10, ([enc (x7 : (List Int)), .int 0] : List D), w, rfl, m15, Post.mono2 P.bind (fun e23 P => ?_) (fun x17 P => ?_)⟩
      · skip
        exact fun C B' H' g s => P C B' H' g (st.go s (go1 (.inr n16)))
      have nf24 := fun (p : Addr) (h : H12 p = none) => st.nn h
      refine fun v21 B18 H19 s20 m15 rn25 => ?_
      have r22 := rn25.rep
      replace rn25 := rn25.ago nf24
      replace st := st.go s20 (go1 (.inr n16))
      replace w := s20.ok
      refine h_seq <| h_if ?_
      refine h_test ?_
      refine h_op ?_
      refine h_callLS rfl ?_
      refine h_cons ?_
      refine h_var rfl ?_
      refine h_nil ?_
      refine ⟨B18, v21, (enc x17.1), w, rfl, r22, Post.mono2 P.bind (fun e32 P => ?_) (fun x26 P => ?_)⟩
      · skip
        exact fun C B' H' g s => P C B' H' g (st.go s go0)
      refine fun p33 B27 H28 s29 hn34 m35 => ?_
      have n37 := st.nn hn34
      replace r22 := r22.mono s29.ex
      replace rn25 := rn25.mono s29.ex
      replace st := st.go s29 go0
      replace w := s29.ok
      obtain ⟨B42, e38, k39, g40, r41⟩ := Mu.keep m35
      replace st := g40 _ _ _ st w0 n37
      replace r22 := r22.mono e38
      replace rn25 := rn25.mono e38
      replace w := st.ok
      replace r41 : Rep K B42 (.ref p33) (enc x26) := r41
      refine h_var rfl ?_
      obtain ⟨gd, P⟩ := P.guard
      refine h_neD (d := (enc x26)) (e := a_body) w r41 (r_body.mono st.ex) gd ?_
      refine h_bl ?_
      refine h_ite (fun c1 => ?_) (fun c1 => ?_)
      · replace P := P.iteT c1
        exact P.err _ _ _ T_NoBody.g st
      · replace P := P.iteF c1
        refine h_next ?_
        refine h_nx ?_
        refine h_ret ?_
        refine h_var rfl ?_
        exact P.ok _ _ _ st rn25
theorem ok_read_index {f : Addr} {fd : FuncData}  (F : Fun K "read_index" "read_index" s_read_index f fd) {f_index_in : Addr} {d_index_in : FuncData} (g_index_in : mg "index_in" = some (.ref f_index_in)) (k_index_in : PySem.W.keepIn K (.ref f_index_in) = true) (b_index_in : L2.Binds K d_index_in ["numbers"] []) (G_index_in : FnOk Pr wo K mg base (L2.CX Pr wo) 4 f_index_in d_index_in ["numbers"] (sp_index_in K mg C_Numbers)) {f_index_body : Addr} {d_index_body : FuncData} (g_index_body : mg "index_body" = some (.ref f_index_body)) (k_index_body : PySem.W.keepIn K (.ref f_index_body) = true) (b_index_body : L2.Binds K d_index_body ["index"] []) (G_index_body : FnOk Pr wo K mg base (L2.CX Pr wo) 4 f_index_body d_index_body ["index"] (sp_index_body K mg)) {f_read_as__index_in__index_body : Addr} {d_read_as__index_in__index_body : FuncData} (g_read_as__index_in__index_body : mg "read_as" = some (.ref f_read_as__index_in__index_body)) (k_read_as__index_in__index_body : PySem.W.keepIn K (.ref f_read_as__index_in__index_body) = true) (b_read_as__index_in__index_body : L2.Binds K d_read_as__index_in__index_body ["body", "thing_in", "body_of"] []) (G_read_as__index_in__index_body : FnOk Pr wo K mg base (L2.CX Pr wo) 5 f_read_as__index_in__index_body d_read_as__index_in__index_body ["body", "thing_in", "body_of"] (sp_read_as__index_in__index_body K mg f_index_in f_index_body)) : FnOk Pr wo K mg base (L2.CX Pr wo) 6 f fd ["body"] (sp_read_index K mg) := by
  refine F.okX sc_read_index (fun vs H Q E h => ?_) (fun cdv A outer s H0 vs Q E hr h => ?_)
  · obtain ⟨_, _, _, _, rfl, _⟩ := h; rfl
  · obtain ⟨B0, v_body, a_body, w, rfl, r_body, P⟩ := h
    have w0 := w
    have hu := hu_of hr
    have hu64 := hu64_of hr
    have hu65 := hu65_of hr
    have hr4 : Room 4 _ := hr.mono (by decide)
    have hr5 : Room 5 _ := hr.mono (by decide)
    refine ⟨_, (pss_one (ps_ret (pe_callS G_read_as__index_in__index_body hr5 rfl g_read_as__index_in__index_body k_read_as__index_in__index_body b_read_as__index_in__index_body (fun σ => passAt (takes_of rfl rfl rfl rfl) σ) (pa_cons (pv 0) (pa_cons (pe_glob (v := .ref f_index_in) (by rfl) g_index_in rfl) (pa_cons (pe_glob (v := .ref f_index_body) (by rfl) g_index_body rfl) pa_nil)))))), ?_⟩
    unfold m_read_index at P
    have st := Stp.refl (W := []) w
    refine h_ret ?_
    refine h_callS ?_
    refine h_cons ?_
    refine h_var rfl ?_
    refine h_cons ?_
    refine h_c ?_
    refine h_cons ?_
    refine h_c ?_
    refine h_nil ?_
    refine ⟨B0, v_body, a_body, w, rfl, (r_body.mono st.ex), Post.mono2 P.bind (fun e7 P => ?_) (fun x1 P => ?_)⟩
    · skip
      exact fun C B' H' g s => P C B' H' g (st.go s go0)
    have nf8 := fun (p : Addr) (h : H0 p = none) => st.nn h
    refine fun v5 B2 H3 s4 rn9 => ?_
    have r6 := rn9.rep
    replace rn9 := rn9.ago nf8
    replace st := st.go s4 go0
    replace w := s4.ok
    exact P.ok _ _ _ st rn9
theorem ok__law_cell_at {f : Addr} {fd : FuncData}  (F : Fun K "_law_cell_at" "_law_cell_at" s__law_cell_at f fd) (bI_len : mg "len" = none) : FnOk Pr wo K mg base CX0 1 f fd ["_law_script", "_law_k"] (sp__law_cell_at K) := by
  refine F.ok sc__law_cell_at (fun vs H Q E h => ?_) (fun cdv A outer s H0 vs Q E hr h => ?_)
  · obtain ⟨_, _, _, _, _, rfl, _⟩ := h; rfl
  · obtain ⟨B0, v_script, a_script, a_k, w, rfl, r_script, P⟩ := h
    have w0 := w
    have hu := hu_of hr
    have hu64 := hu64_of hr
    have hu65 := hu65_of hr
    refine ⟨_, (pss_cons (ps_if (pt_cmpR op_lt (pv 1) (pe_callB (r := rLenY K) cr_len (by rfl) bI_len PySem.boot_len (pa_cons (pv 0) pa_nil)) (nomark _)) (pss_one (ps_ret (pe_ix (r := rIxL K) ix_list (pv 0) (pv 1) (fun _ _ => rfl)))) pss_nil)
      (pss_one (ps_ret pe_int))), ?_⟩
    unfold l_cell_at at P
    have st := Stp.refl (W := []) w
    refine h_seq <| h_if ?_
    refine h_test ?_
    refine h_op ?_
    refine h_var rfl ?_
    refine h_cb ?_
    refine h_cons ?_
    refine h_var rfl ?_
    refine h_nil ?_
    obtain ⟨p1, xs2, rfl, hs3, hr4⟩ := Bor.sq (r_script.step st)
    refine h_len hs3 hr4 ?_
    refine h_I0 ?_
    refine h_bl ?_
    refine h_ite (fun c1 => ?_) (fun c1 => ?_)
    · replace P := P.iteT c1
      refine h_ret ?_
      refine h_op ?_
      refine h_var rfl ?_
      refine h_var rfl ?_
      obtain ⟨p5, xs6, hv, hs7, hr8⟩ := Bor.sq (r_script.step st)
      cases hv
      obtain ⟨x9, hx10, P⟩ := P.ix
      obtain ⟨u11, hu, r12⟩ := RepL.atE hr8 hx10
      refine h_ixL hs7 hu ?_
      cases r12
      exact P.ok _ _ _ st (Rep.int _)
    · replace P := P.iteF c1
      refine h_next ?_
      refine h_nx ?_
      refine h_ret ?_
      refine h_c ?_
      exact P.ok _ _ _ st (Rep.int _)
theorem ok__law_digit {f : Addr} {fd : FuncData}  (F : Fun K "_law_digit" "_law_digit" s__law_digit f fd) (bI_len : mg "len" = none) : FnOk Pr wo K mg base CX0 1 f fd ["_law_state", "_law_base"] (sp__law_digit K) := by
  refine F.ok sc__law_digit (fun vs H Q E h => ?_) (fun cdv A outer s H0 vs Q E hr h => ?_)
  · obtain ⟨_, _, _, _, _, rfl, _⟩ := h; rfl
  · obtain ⟨B0, p_state, a_state, a_base, w, rfl, m_state, P⟩ := h
    have w0 := w
    have hu := hu_of hr
    have hu64 := hu64_of hr
    have hu65 := hu65_of hr
    refine ⟨_, (pss_cons (ps_if (pt_cmpR op_eq (pe_callB (r := rLenY K) cr_len (by rfl) bI_len PySem.boot_len (pa_cons (pv 0) pa_nil)) pe_int (nomark _)) (pss_one (ps_expr (pe_bm PySem.F.plainAttrs_list PySem.F.slot_list_extend PySem.F.type_list_extend mt_extend (pv 0) (pa_cons (pe_lst (pa_cons (pe_op op_mod (pe_ix (r := rIxL K) ix_list (pv 0) pe_int (fun _ _ => rfl)) pe_int) (pa_cons pe_int pa_nil))) pa_nil)))) pss_nil)
      (pss_cons (ps_if (pt_cmpR op_ge (pe_ix (r := rIxL K) ix_list (pv 0) pe_int (fun _ _ => rfl)) (pv 1) (nomark _)) (pss_cons (ps_set (i := 2) sc__law_digit.nd rfl (by first | exact Or.inl rfl | exact Or.inr rfl) (pe_op op_mod (pe_ix (r := rIxL K) ix_list (pv 0) pe_int (fun _ _ => rfl)) (pv 1)))
      (pss_cons (ps_asg (pe_op op_fdivW (pe_ix (r := rIxL K) ix_list (pv 0) pe_int (fun _ _ => rfl)) (pv 1)) (pg_sub (pv 0) pe_int set_list))
      (pss_one (ps_ret (pv 2))))) pss_nil)
      (pss_cons (ps_asg (pe_op op_add (pe_ix (r := rIxL K) ix_list (pv 0) pe_int (fun _ _ => rfl)) pe_int) (pg_sub (pv 0) pe_int set_list))
      (pss_cons (ps_set (i := 3) sc__law_digit.nd rfl (by first | exact Or.inl rfl | exact Or.inr rfl) (pe_op op_mod (pe_op op_mul (pe_op op_add (pe_op op_add (pe_ix (r := rIxL K) ix_list (pv 0) pe_int (fun _ _ => rfl)) (pe_op op_mul pe_int (pe_ix (r := rIxL K) ix_list (pv 0) pe_int (fun _ _ => rfl)))) pe_int) pe_int) pe_int))
      (pss_cons (ps_set (i := 3) sc__law_digit.nd rfl (by first | exact Or.inl rfl | exact Or.inr rfl) (pe_op op_mod (pe_op op_mulW (pv 3) (pe_op op_add (pe_op op_fdiv (pv 3) pe_int) pe_int)) pe_int))
      (pss_one (ps_ret (pe_op op_mod (pe_op op_mod (pe_op op_mulW (pv 3) (pe_op op_add (pe_op op_fdiv (pv 3) pe_int) pe_int)) pe_int) (pv 1))))))))), ?_⟩
    unfold l_digit at P
    have st := Stp.refl (W := [p_state]) w
    have wj2 := w
    have sj1 := Stp.refl (W := [p_state]) w
    refine h_joinS P (fun (a : (List Int)) σ' H' => ∃ (B' : Hp), Stp [p_state] B0 H0 B' H' ∧ σ' = [some ((.ref p_state)), some (.int a_base), none, none] ∧ Mu K B' H' p_state (a.map enc)) (fun N kk3 P => h_if ?_) ?_
    · skip
      refine h_test ?_
      refine h_op ?_
      refine h_cb ?_
      refine h_cons ?_
      refine h_var rfl ?_
      refine h_nil ?_
      obtain ⟨xs5, hv, hs6, hr7⟩ := Mu.sq m_state
      refine h_len hs6 hr7 ?_
      refine h_c ?_
      refine h_eqI ?_
      refine h_bl ?_
      refine h_ite (fun c1 => ?_) (fun c1 => ?_)
      · replace P := P.iteT c1
        refine h_drop ?_
        refine h_bm ?_
        refine h_var rfl ?_
        refine h_bmL m_state ?_
        refine h_cons ?_
        refine h_lst ?_
        refine h_cons ?_
        refine h_op ?_
        refine h_op ?_
        refine h_var rfl ?_
        refine h_c ?_
        obtain ⟨xs9, hv, hs10, hr11⟩ := Mu.sq m_state
        obtain ⟨x12, hx13, P⟩ := P.ix
        obtain ⟨u14, hu, r15⟩ := RepL.atE hr11 hx13
        refine h_ixL hs10 hu ?_
        cases r15
        refine h_c ?_
        refine h_I (by decide +kernel) ?_
        refine h_cons ?_
        refine h_c ?_
        refine h_nil ?_
        refine h_newM w (ds := (([(x12 % 2147483647), 0] : List Int)).map enc) (K := K) (.cons (Rep.int _) (.cons (Rep.int _) .nil)) (fun p16 H17 hn20 s18 m19 => ?_) (by show 2 ≤ sizeLine; decide)
        have n21 := st.nn hn20
        have n22 := sj1.nn hn20
        have ne23 := Mu.ne m_state hn20
        replace m_state := m_state.step s18 nm0
        replace st := st.go s18 go0
        replace sj1 := sj1.go s18 go0
        replace w := s18.ok
        refine h_nil ?_
        obtain ⟨gd, P⟩ := P.guard
        refine h_extend w m_state m19 gd (fun H24 s25 m_state => ?_)
        replace st := st.go s25 (go1 (.inl (by simp)))
        replace sj1 := sj1.go s25 (go1 (.inl (by simp)))
        replace w := s25.ok
        refine h_nx ?_
        exact kk3 (a_state ++ ([(x12 % 2147483647), 0] : List Int)) _ _ ⟨_, sj1, rfl, m_state⟩ P.ok
      · replace P := P.iteF c1
        refine h_next ?_
        refine h_nx ?_
        exact kk3 a_state _ _ ⟨_, sj1, rfl, m_state⟩ P.ok
    rintro a26 _ H28 ⟨B27, s29, rfl, m_state⟩ P
    replace st := st.go s29 (go1 (.inl (by simp)))
    replace w := s29.ok
    refine h_seq <| h_if ?_
    refine h_test ?_
    refine h_op ?_
    refine h_op ?_
    refine h_var rfl ?_
    refine h_c ?_
    obtain ⟨xs31, hv, hs32, hr33⟩ := Mu.sq m_state
    obtain ⟨x34, hx35, P⟩ := P.ix
    obtain ⟨u36, hu, r37⟩ := RepL.atE hr33 hx35
    refine h_ixL hs32 hu ?_
    cases r37
    refine h_var rfl ?_
    refine h_I0 ?_
    refine h_bl ?_
    refine h_ite (fun c1 => ?_) (fun c1 => ?_)
    · replace P := P.iteT c1
      refine h_set ?_
      refine h_op ?_
      refine h_op ?_
      refine h_var rfl ?_
      refine h_c ?_
      obtain ⟨xs39, hv, hs40, hr41⟩ := Mu.sq m_state
      obtain ⟨x42, hx43, P⟩ := P.ix
      obtain ⟨u44, hu, r45⟩ := RepL.atE hr41 hx43
      refine h_ixL hs40 hu ?_
      cases r45
      refine h_var rfl ?_
      obtain ⟨gd, P⟩ := P.guard
      refine h_I gd ?_
      replace P := P.lt
      generalize hx : (x42 % a_base) = x46 at P ⊢
      refine h_seq ?_
      refine h_asg ?_
      refine h_op ?_
      refine h_op ?_
      refine h_var rfl ?_
      refine h_c ?_
      obtain ⟨xs48, hv, hs49, hr50⟩ := Mu.sq m_state
      obtain ⟨x51, hx52, P⟩ := P.ix
      obtain ⟨u53, hu, r54⟩ := RepL.atE hr50 hx52
      refine h_ixL hs49 hu ?_
      cases r54
      refine h_var rfl ?_
      obtain ⟨gd, P⟩ := P.guard
      refine h_I gd ?_
      refine h_sub ?_
      refine h_var rfl ?_
      refine h_c ?_
      obtain ⟨j56, hj57, P⟩ := P.set
      refine h_setL (b := (x51 / a_base)) w m_state (Rep.int _) hj57 (fun H58 s59 m_state => ?_)
      replace st := st.go s59 (go1 (.inl (by simp)))
      replace w := s59.ok
      generalize hl : List.set a26 j56 (x51 / a_base) = x55 at *
      refine h_nx ?_
      refine h_ret ?_
      refine h_var rfl ?_
      exact P.ok _ _ _ st m_state (Rep.int _)
    · replace P := P.iteF c1
      refine h_next ?_
      refine h_nx ?_
      refine h_seq ?_
      refine h_asg ?_
      refine h_op ?_
      refine h_op ?_
      refine h_var rfl ?_
      refine h_c ?_
      obtain ⟨xs61, hv, hs62, hr63⟩ := Mu.sq m_state
      obtain ⟨x64, hx65, P⟩ := P.ix
      obtain ⟨u66, hu, r67⟩ := RepL.atE hr63 hx65
      refine h_ixL hs62 hu ?_
      cases r67
      refine h_c ?_
      refine h_I0 ?_
      refine h_sub ?_
      refine h_var rfl ?_
      refine h_c ?_
      obtain ⟨j69, hj70, P⟩ := P.set
      refine h_setL (b := (x64 + 1)) w m_state (Rep.int _) hj70 (fun H71 s72 m_state => ?_)
      replace st := st.go s72 (go1 (.inl (by simp)))
      replace w := s72.ok
      generalize hl : List.set a26 j69 (x64 + 1) = x68 at *
      refine h_nx ?_
      refine h_set ?_
      refine h_op ?_
      refine h_op ?_
      refine h_op ?_
      refine h_op ?_
      refine h_op ?_
      refine h_var rfl ?_
      refine h_c ?_
      obtain ⟨xs74, hv, hs75, hr76⟩ := Mu.sq m_state
      obtain ⟨x77, hx78, P⟩ := P.ix
      obtain ⟨u79, hu, r80⟩ := RepL.atE hr76 hx78
      refine h_ixL hs75 hu ?_
      cases r80
      refine h_op ?_
      refine h_c ?_
      refine h_op ?_
      refine h_var rfl ?_
      refine h_c ?_
      obtain ⟨xs82, hv, hs83, hr84⟩ := Mu.sq m_state
      obtain ⟨x85, hx86, P⟩ := P.ix
      obtain ⟨u87, hu, r88⟩ := RepL.atE hr84 hx86
      refine h_ixL hs83 hu ?_
      cases r88
      refine h_I (.inl ⟨by decide +kernel, by decide +kernel⟩) ?_
      refine h_I0 ?_
      refine h_c ?_
      refine h_I0 ?_
      refine h_c ?_
      refine h_I (.inr ⟨by decide +kernel, by decide +kernel⟩) ?_
      refine h_c ?_
      refine h_I (by decide +kernel) ?_
      replace P := P.lt
      generalize hx : ((((x77 + (7919 * x85)) + 1) * 48271) % 2147483647) = x89 at P ⊢
      refine h_set ?_
      refine h_op ?_
      refine h_op ?_
      refine h_var rfl ?_
      refine h_op ?_
      refine h_op ?_
      refine h_var rfl ?_
      refine h_c ?_
      refine h_I ⟨by decide +kernel, by decide +kernel⟩ ?_
      refine h_c ?_
      refine h_I0 ?_
      obtain ⟨gd, P⟩ := P.guard
      refine h_I gd ?_
      refine h_c ?_
      refine h_I (by decide +kernel) ?_
      replace P := P.lt
      generalize hx : ((x89 * ((x89 / 1009) + 69621)) % 2147483647) = x90 at P ⊢
      refine h_ret ?_
      refine h_op ?_
      refine h_op ?_
      refine h_op ?_
      refine h_var rfl ?_
      refine h_op ?_
      refine h_op ?_
      refine h_var rfl ?_
      refine h_c ?_
      refine h_I ⟨by decide +kernel, by decide +kernel⟩ ?_
      refine h_c ?_
      refine h_I0 ?_
      obtain ⟨gd, P⟩ := P.guard
      refine h_I gd ?_
      refine h_c ?_
      refine h_I (by decide +kernel) ?_
      refine h_var rfl ?_
      obtain ⟨gd, P⟩ := P.guard
      refine h_I gd ?_
      exact P.ok _ _ _ st m_state (Rep.int _)
theorem ok__law_figures {f : Addr} {fd : FuncData}  (F : Fun K "_law_figures" "_law_figures" s__law_figures f fd)  : FnOk Pr wo K mg base CX0 1 f fd ["_law_number"] (sp__law_figures K) := by
  refine F.ok sc__law_figures (fun vs H Q E h => ?_) (fun cdv A outer s H0 vs Q E hr h => ?_)
  · obtain ⟨_, _, _, rfl, _⟩ := h; rfl
  · obtain ⟨B0, a_number, w, rfl, P⟩ := h
    have w0 := w
    have hu := hu_of hr
    have hu64 := hu64_of hr
    have hu65 := hu65_of hr
    refine ⟨_, (pss_cons (ps_set (i := 1) sc__law_figures.nd rfl (by first | exact Or.inl rfl | exact Or.inr rfl) (pe_lst (pa_cons (pe_op op_mod (pv 0) pe_int) pa_nil)))
      (pss_cons (ps_while PassesOwn.never (pt_cmpR op_ge (pv 0) pe_int (nomark _)) (pss_cons (ps_set (i := 0) sc__law_figures.nd rfl (by first | exact Or.inl rfl | exact Or.inr rfl) (pe_op op_fdiv (pv 0) pe_int))
      (pss_one (ps_set (i := 1) sc__law_figures.nd rfl (by first | exact Or.inl rfl | exact Or.inr rfl) (pe_op (r := rCatQ K) op_catQ (pe_lst (pa_cons (pe_op op_add pe_int (pe_op op_mod (pv 0) pe_int)) pa_nil)) (pv 1))))))
      (pss_one (ps_ret (pv 1))))), ?_⟩
    unfold l_figures at P
    have st := Stp.refl (W := []) w
    refine h_set ?_
    refine h_lst ?_
    refine h_cons ?_
    refine h_op ?_
    refine h_var rfl ?_
    refine h_c ?_
    refine h_I (by decide +kernel) ?_
    refine h_nil ?_
    refine h_newM w (ds := (([(a_number % 128)] : List Int)).map enc) (K := K) (.cons (Rep.int _) .nil) (fun p1 H2 hn5 s3 m4 => ?_) (by show 1 ≤ sizeLine; decide)
    have n6 := st.nn hn5
    replace st := st.go s3 go0
    replace w := s3.ok
    refine h_seq ?_
    have wj8 := w
    have sj7 := Stp.refl (W := []) w
    refine h_while P (fun (a : Int × (List Int)) σ' H' => ∃ (B' : Hp) (p__law_found : Addr), Stp [] B0 H2 B' H' ∧ σ' = [some (.int a.1), some (.ref p__law_found)] ∧ Mu K B' H' p__law_found (a.2.map enc) ∧ H0 p__law_found = none) ⟨_, p1, sj7, rfl, m4, n6⟩ ?_ ?_
    · rintro N9 C10 T11 a16 _ H18 ⟨B17, p20, s19, rfl, m21, n22⟩ kn12 kk13 kr14 kb15 P
      replace st := st.go s19 go0
      replace w := s19.ok
      have sj7 := s19
      refine h_test ?_
      refine h_op ?_
      refine h_var rfl ?_
      refine h_c ?_
      refine h_I0 ?_
      refine h_bl ?_
      refine h_ite (fun c1 => ?_) (fun c1 => ?_)
      · replace P := P.iteT c1
        refine ⟨N9, kn12, ?_⟩
        refine h_set ?_
        refine h_op ?_
        refine h_var rfl ?_
        refine h_c ?_
        refine h_I ⟨by decide +kernel, by decide +kernel⟩ ?_
        replace P := P.lt
        generalize hx : (a16.1 / 128) = x23 at P ⊢
        refine h_set1 ?_
        refine h_op ?_
        refine h_lst ?_
        refine h_cons ?_
        refine h_op ?_
        refine h_c ?_
        refine h_op ?_
        refine h_var rfl ?_
        refine h_c ?_
        refine h_I (by decide +kernel) ?_
        refine h_I0 ?_
        refine h_nil ?_
        refine h_newL w (ds := (([(128 + (x23 % 128))] : List Int)).map enc) (K := K) (.cons (Rep.int _) .nil) (fun p24 B25 H26 s27 r28 => ?_) (by show 1 ≤ sizeLine; decide)
        replace m21 := m21.step s27 nm0
        replace st := st.go s27 go0
        replace sj7 := sj7.go s27 go0
        replace w := s27.ok
        replace r28 : Rep K B25 (.ref p24) (enc ([(128 + (x23 % 128))] : List Int)) := r28
        refine h_var rfl ?_
        obtain ⟨p29, xs30, hv, hs31, hr32⟩ := Rep.sq w r28
        cases hv
        obtain ⟨xs34, hv, hs35, hr36⟩ := Mu.sq m21
        obtain ⟨gd, P⟩ := P.guard
        refine h_cat hs31 hs35 (by have g := gd; simp only [hr32.length, hr36.length, List.length_map] at g ⊢; exact Nat.le_trans g (by decide)) ?_
        refine h_nwM w (ds := ((([(128 + (x23 % 128))] : List Int) ++ a16.2)).map enc) (K := K) (RepL.cat hr32 hr36) (fun p37 H38 hn41 s39 m40 => ?_) 
        have n42 := st.nn hn41
        have n43 := sj7.nn hn41
        have ne44 := Mu.ne m21 hn41
        replace m21 := m21.step s39 nm0
        replace st := st.go s39 go0
        replace sj7 := sj7.go s39 go0
        replace w := s39.ok
        refine h_nx ?_
        exact kk13 (x23, (([(128 + (x23 % 128))] : List Int) ++ a16.2)) _ _ ⟨_, p37, sj7, rfl, m40, n42⟩ P.ok
      · replace P := P.iteF c1
        exact kb15 (a16.1, a16.2) _ _ ⟨_, p20, sj7, rfl, m21, n22⟩ P.ok
    · rintro a45 _ H47 ⟨B46, p49, s48, rfl, m50, n51⟩ P
      replace st := st.go s48 go0
      replace w := s48.ok
      refine h_nx ?_
      refine h_ret ?_
      refine h_var rfl ?_
      exact P.ok _ _ _ st n51 m50
theorem ok__law_index_numbers {f : Addr} {fd : FuncData}  (F : Fun K "_law_index_numbers" "_law_index_numbers" s__law_index_numbers f fd) (bI_len : mg "len" = none) (bI_list : mg "list" = none) : FnOk Pr wo K mg base CX0 1 f fd ["_law_index_here"] (sp__law_index_numbers K) := by
  refine F.ok sc__law_index_numbers (fun vs H Q E h => ?_) (fun cdv A outer s H0 vs Q E hr h => ?_)
  · obtain ⟨_, _, _, _, rfl, _⟩ := h; rfl
  · obtain ⟨B0, v_index_here, a_index_here, w, rfl, r_index_here, P⟩ := h
    have w0 := w
    have hu := hu_of hr
    have hu64 := hu64_of hr
    have hu65 := hu65_of hr
    refine ⟨_, (pss_cons (ps_set (i := 1) sc__law_index_numbers.nd rfl (by first | exact Or.inl rfl | exact Or.inr rfl) (pe_lst (pa_cons (pe_ix (r := rIxT K) ix_tup (pv 0) pe_int (fun _ _ => rfl)) (pa_cons (pe_callB (r := rLenY K) cr_len (by rfl) bI_len PySem.boot_len (pa_cons (pe_ix (r := rIxT K) ix_tup (pv 0) pe_int (fun _ _ => rfl)) pa_nil)) pa_nil))))
      (pss_cons (ps_for PassesOwn.never rfl (pi_list (pe_ix (r := rIxT K) ix_tup (pv 0) pe_int (fun _ _ => rfl))) (pg_name (i := 2) sc__law_index_numbers.nd rfl (by first | exact Or.inl rfl | exact Or.inr rfl)) (pss_one (ps_set (i := 1) sc__law_index_numbers.nd rfl (by first | exact Or.inl rfl | exact Or.inr rfl) (pe_op (r := rCatQ K) op_catQ (pv 1) (pe_callTy (r := rListY K) cr_list (by rfl) bI_list Y.boot_list (pa_cons (pv 2) pa_nil))))))
      (pss_one (ps_ret (pv 1))))), ?_⟩
    unfold l_index_numbers at P
    have st := Stp.refl (W := []) w
    refine h_set ?_
    refine h_lst ?_
    refine h_cons ?_
    refine h_op ?_
    refine h_var rfl ?_
    refine h_c ?_
    obtain ⟨p1, xs2, rfl, hs3, hr4⟩ := Rep.st w (r_index_here.mono st.ex)
    obtain ⟨u5, hu, r6⟩ := RepL.at hr4 (i := 0) rfl
    refine h_ixT hs3 hu ?_
    cases r6
    refine h_cons ?_
    refine h_cb ?_
    refine h_cons ?_
    refine h_op ?_
    refine h_var rfl ?_
    refine h_c ?_
    obtain ⟨p7, xs8, hv, hs9, hr10⟩ := Rep.st w (r_index_here.mono st.ex)
    cases hv
    obtain ⟨u11, hu, r12⟩ := RepL.at hr10 (i := 1) rfl
    refine h_ixT hs9 hu ?_
    refine h_nil ?_
    obtain ⟨p13, xs14, rfl, hs15, hr16⟩ := Rep.sq w r12
    refine h_len hs15 hr16 ?_
    refine h_nil ?_
    refine h_newL w (ds := (([a_index_here.a, (a_index_here.b.length : Int)] : List Int)).map enc) (K := K) (.cons (Rep.int _) (.cons (Rep.int _) .nil)) (fun p17 B18 H19 s20 r21 => ?_) (by show 2 ≤ sizeLine; decide)
    replace st := st.go s20 go0
    replace w := s20.ok
    replace r21 : Rep K B18 (.ref p17) (enc ([a_index_here.a, (a_index_here.b.length : Int)] : List Int)) := r21
    refine h_seq ?_
    refine h_forE ?_
    refine h_op ?_
    refine h_var rfl ?_
    refine h_c ?_
    obtain ⟨p22, xs23, hv, hs24, hr25⟩ := Rep.st w (r_index_here.mono st.ex)
    cases hv
    obtain ⟨u26, hu, r27⟩ := RepL.at hr25 (i := 1) rfl
    refine h_ixT hs24 hu ?_
    obtain ⟨p28, xs29, rfl, hb30, hr31⟩ := Rep.sqB r27
    have wj33 := w
    have sj32 := Stp.refl (W := []) w
    refine h_forL P (w.l hb30) hr31 (fun (a : (List Int)) σ' H' => ∃ (B' : Hp) (v0 : V) (o__law_row : Option V), Stp [] B18 H19 B' H' ∧ σ' = [some ((.ref p1)), some v0, o__law_row] ∧ Rep K B' v0 (enc a)) ⟨_, (.ref p17), _, sj32, rfl, r21⟩ (fun _ _ _ j => ?_) ?_ ?_
    · obtain ⟨B43, v46, o48, s45, rfl, r47⟩ := j
      exact s45.ok.l (s45.ex.l hb30)
    · rintro N34 T35 x40 v41 a39 _ H44 ⟨B43, v46, o48, s45, rfl, r47⟩ r42 kk36 kr37 kb38 P
      replace st := st.go s45 go0
      replace w := s45.ok
      have sj32 := s45
      replace r42 := r42.mono sj32.ex
      refine h_gname ?_
      refine h_set1 ?_
      refine h_op ?_
      refine h_var rfl ?_
      refine h_cb ?_
      refine h_cons ?_
      refine h_var rfl ?_
      refine h_nil ?_
      obtain ⟨p49, xs50, rfl, hs51, hr52⟩ := Rep.st w r42
      refine h_listT hs51 ?_
      refine h_nwL w (ds := (([x40.a, x40.b, x40.c, x40.d, x40.e, x40.f] : List Int)).map enc) (K := K) hr52 (fun p53 B54 H55 s56 r57 => ?_) 
      replace r47 := r47.mono s56.ex
      replace r42 := r42.mono s56.ex
      replace st := st.go s56 go0
      replace sj32 := sj32.go s56 go0
      replace w := s56.ok
      replace r57 : Rep K B54 (.ref p53) (enc ([x40.a, x40.b, x40.c, x40.d, x40.e, x40.f] : List Int)) := r57
      obtain ⟨p58, xs59, rfl, hs60, hr61⟩ := Rep.sq w r47
      obtain ⟨p62, xs63, hv, hs64, hr65⟩ := Rep.sq w r57
      cases hv
      obtain ⟨gd, P⟩ := P.guard
      refine h_cat hs60 hs64 (by have g := gd; simp only [hr61.length, hr65.length, List.length_map] at g ⊢; exact Nat.le_trans g (by decide)) ?_
      refine h_nwL w (ds := ((a39 ++ ([x40.a, x40.b, x40.c, x40.d, x40.e, x40.f] : List Int))).map enc) (K := K) (RepL.cat hr61 hr65) (fun p66 B67 H68 s69 r70 => ?_) 
      replace r47 := r47.mono s69.ex
      replace r42 := r42.mono s69.ex
      replace st := st.go s69 go0
      replace sj32 := sj32.go s69 go0
      replace w := s69.ok
      replace r70 : Rep K B67 (.ref p66) (enc (a39 ++ ([x40.a, x40.b, x40.c, x40.d, x40.e, x40.f] : List Int))) := r70
      refine h_nx ?_
      exact kk36 (a39 ++ ([x40.a, x40.b, x40.c, x40.d, x40.e, x40.f] : List Int)) _ _ ⟨_, (.ref p66), _, sj32, rfl, r70⟩ P.ok
    · rintro a71 _ H73 ⟨B72, v75, o77, s74, rfl, r76⟩ P
      replace st := st.go s74 go0
      replace w := s74.ok
      refine h_nx ?_
      refine h_ret ?_
      refine h_var rfl ?_
      exact P.ok _ _ _ st r76
theorem ok__law_all_figures {f : Addr} {fd : FuncData}  (F : Fun K "_law_all_figures" "_law_all_figures" s__law_all_figures f fd) {f__law_figures : Addr} {d__law_figures : FuncData} (g__law_figures : mg "_law_figures" = some (.ref f__law_figures)) (k__law_figures : PySem.W.keepIn K (.ref f__law_figures) = true) (b__law_figures : L2.Binds K d__law_figures ["_law_number"] []) (G__law_figures : FnOk Pr wo K mg base CX0 1 f__law_figures d__law_figures ["_law_number"] (sp__law_figures K)) : FnOk Pr wo K mg base CX0 2 f fd ["_law_numbers"] (sp__law_all_figures K) := by
  refine F.ok sc__law_all_figures (fun vs H Q E h => ?_) (fun cdv A outer s H0 vs Q E hr h => ?_)
  · obtain ⟨_, _, _, _, rfl, _⟩ := h; rfl
  · obtain ⟨B0, v_numbers, a_numbers, w, rfl, r_numbers, P⟩ := h
    have w0 := w
    have hu := hu_of hr
    have hu64 := hu64_of hr
    have hu65 := hu65_of hr
    have hr1 : Room 1 _ := hr.mono (by decide)
    refine ⟨_, (pss_cons (ps_set (i := 1) sc__law_all_figures.nd rfl (by first | exact Or.inl rfl | exact Or.inr rfl) (pe_lst pa_nil))
      (pss_cons (ps_for PassesOwn.never rfl (pi_list (pv 0)) (pg_name (i := 2) sc__law_all_figures.nd rfl (by first | exact Or.inl rfl | exact Or.inr rfl)) (pss_one (ps_expr (pe_bm PySem.F.plainAttrs_list PySem.F.slot_list_extend PySem.F.type_list_extend mt_extend (pv 1) (pa_cons (pe_call G__law_figures hr1 rfl g__law_figures k__law_figures b__law_figures .nil pass0 (pa_cons (pv 2) pa_nil)) pa_nil)))))
      (pss_one (ps_ret (pv 1))))), ?_⟩
    unfold l_all_figures at P
    have st := Stp.refl (W := []) w
    refine h_set ?_
    refine h_lst ?_
    refine h_nil ?_
    refine h_newM w (ds := (([] : List Int)).map enc) (K := K) .nil (fun p1 H2 hn5 s3 m4 => ?_) (by show 0 ≤ sizeLine; decide)
    have n6 := st.nn hn5
    replace st := st.go s3 go0
    replace w := s3.ok
    refine h_seq ?_
    refine h_forE ?_
    refine h_var rfl ?_
    obtain ⟨p7, xs8, rfl, hb9, hr10⟩ := Rep.sqB (r_numbers.mono st.ex)
    have wj12 := w
    have sj11 := Stp.refl (W := [p1]) w
    refine h_forL P (w.l hb9) hr10 (fun (a : (List Int)) σ' H' => ∃ (B' : Hp) (o__law_number : Option V), Stp [p1] B0 H2 B' H' ∧ σ' = [some ((.ref p7)), some ((.ref p1)), o__law_number] ∧ Mu K B' H' p1 (a.map enc)) ⟨_, _, sj11, rfl, m4⟩ (fun _ _ _ j => ?_) ?_ ?_
    · obtain ⟨B22, o25, s24, rfl, m4⟩ := j
      exact s24.ok.l (s24.ex.l hb9)
    · rintro N13 T14 x19 v20 a18 _ H23 ⟨B22, o25, s24, rfl, m4⟩ r21 kk15 kr16 kb17 P
      replace st := st.go s24 (go1 (.inr n6))
      replace w := s24.ok
      have sj11 := s24
      replace r21 := r21.mono sj11.ex
      cases r21
      refine h_gname ?_
      refine h_drop ?_
      refine h_bm ?_
      refine h_var rfl ?_
      refine h_bmL m4 ?_
      refine h_cons ?_
      refine h_call ?_
      refine h_cons ?_
      refine h_var rfl ?_
      refine h_nil ?_
      refine ⟨B22, x19, w, rfl, (P.bind).mono (fun x26 P => ?_) (fun _ z => z)⟩
      refine fun p32 B27 H28 s29 hn33 m34 => ?_
      have n36 := st.nn hn33
      have n37 := sj11.nn hn33
      have ne38 := Mu.ne m4 hn33
      replace m4 := m4.step s29 nm0
      replace st := st.go s29 go0
      replace sj11 := sj11.go s29 go0
      replace w := s29.ok
      refine h_nil ?_
      obtain ⟨gd, P⟩ := P.guard
      refine h_extend w m4 m34 gd (fun H39 s40 m4 => ?_)
      replace st := st.go s40 (go1 (.inr n6))
      replace sj11 := sj11.go s40 (go1 (.inl (by simp)))
      replace w := s40.ok
      refine h_nx ?_
      exact kk15 (a18 ++ x26) _ _ ⟨_, _, sj11, rfl, m4⟩ P.ok
    · rintro a41 _ H43 ⟨B42, o45, s44, rfl, m4⟩ P
      replace st := st.go s44 (go1 (.inr n6))
      replace w := s44.ok
      refine h_nx ?_
      refine h_ret ?_
      refine h_var rfl ?_
      obtain ⟨B50, e46, k47, g48, r49⟩ := Mu.keep m4
      replace st := g48 _ _ _ st w0 n6
      replace w := st.ok
      replace r49 : Rep K B50 (.ref p1) (enc a41) := r49
      exact P.ok _ _ _ st r49
theorem ok__law_refused__read_index {f : Addr} {fd : FuncData}  (F : Fun K "_law_refused" "_law_refused" s__law_refused__read_index f fd) {C_NoBody : Addr} (T_NoBody : ExcR K mg "NoBody" C_NoBody) {C_ScrollError : Addr} (T_ScrollError : ExcR K mg "ScrollError" C_ScrollError) {C_NoBytes : Addr} (T_NoBytes : ExcR K mg "NoBytes" C_NoBytes) {C_NoLeaf : Addr} (T_NoLeaf : ExcR K mg "NoLeaf" C_NoLeaf) {C_NoNumber : Addr} (T_NoNumber : ExcR K mg "NoNumber" C_NoNumber) (p_NoBody_NoBody : PySem.W.subIn K (.ref C_NoBody) (.ref C_NoBody) = some true) (p_NoBody_NoBytes : PySem.W.subIn K (.ref C_NoBody) (.ref C_NoBytes) = some false) (p_NoBody_NoLeaf : PySem.W.subIn K (.ref C_NoBody) (.ref C_NoLeaf) = some false) (p_NoBody_NoNumber : PySem.W.subIn K (.ref C_NoBody) (.ref C_NoNumber) = some false) {f_read_index : Addr} {d_read_index : FuncData} (g_read_index : mg "read_index" = some (.ref f_read_index)) (k_read_index : PySem.W.keepIn K (.ref f_read_index) = true) (b_read_index : L2.Binds K d_read_index ["body"] []) (G_read_index : FnOk Pr wo K mg base (L2.CX Pr wo) 6 f_read_index d_read_index ["body"] (sp_read_index K mg)) (bI_isinstance : mg "isinstance" = none) : FnOk Pr wo K mg base CX0 7 f fd ["_law_ask", "_law_thing"] (sp__law_refused__read_index K f_read_index) := by
  refine F.ok sc__law_refused__read_index (fun vs H Q E h => ?_) (fun cdv A outer s H0 vs Q E hr h => ?_)
  · obtain ⟨_, _, _, _, rfl, _⟩ := h; rfl
  · obtain ⟨B0, v_thing, a_thing, w, rfl, r_thing, P⟩ := h
    have w0 := w
    have hu := hu_of hr
    have hu64 := hu64_of hr
    have hu65 := hu65_of hr
    have hr6 : Room 6 _ := hr.mono (by decide)
    refine ⟨_, (pss_cons (ps_tryM (K := K) (Wout := fun _ _ _ _ => False) rfl rfl takes0 (fun W pn xe tk _ => (pss_one (ps_expr (pe_callLS 0 G_read_index hr6 k_read_index b_read_index .nil (fun σ => passAt tk σ) (pa_cons (pv 1) pa_nil))))) (.named (i := 2) sc__law_refused__read_index.nd rfl rfl (T_NoBody.names rfl (by decide)) (fun a oe cls d pn hz hf => (pss_one (ps_ret (pe_not (pe_isET (K := K) (a := a) (cls := cls) (d := d) rfl (fun Dc e1 e2 ec => by subst e1 e2; exact (pe_callB (r := rIsET K Dc a) (call_isET ec hz hf) (by rfl) bI_isinstance PyProof.Rows.boot_isinstance (pa_cons (pv 2) (pa_cons (pe_tup (pa_cons (pe_glob (v := .ref C_NoBytes) (by rfl) T_NoBytes.g rfl) (pa_cons (pe_glob (v := .ref C_NoLeaf) (by rfl) T_NoLeaf.g rfl) (pa_cons (pe_glob (v := .ref C_NoNumber) (by rfl) T_NoNumber.g rfl) pa_nil)))) pa_nil))))))))) (.plain (T_ScrollError.names rfl (by decide)) (fun a oe cls d pn hz hf => (pss_one (ps_ret pe_bl))) .nil)))
      (pss_one (ps_ret pe_bl))), ?_⟩
    unfold l_refused__read_index at P
    have st := Stp.refl (W := []) w
    refine h_seq ?_
    have wj2 := w
    have sj1 := Stp.refl (W := []) w
    refine h_tryJ P (fun (a : Unit) σ' H' => ∃ (B' : Hp) (o_e : Option V), Stp [] B0 H0 B' H' ∧ σ' = [some ((.ref f_read_index)), some (v_thing), o_e]) (fun N3 T4 kk5 kr6 P => ?_) ?_
    · refine h_tryM ?_
      refine h_drop ?_
      refine h_callLS rfl ?_
      refine h_cons ?_
      refine h_var rfl ?_
      refine h_nil ?_
      refine ⟨B0, v_thing, a_thing, w, rfl, (r_thing.mono st.ex), Post.mono2 P.bind (fun e13 P => ?_) (fun x7 P => ?_)⟩
      · skip
        rintro C17 B14 H15 g s16
        replace st := st.go s16 go0
        replace sj1 := sj1.go s16 go0
        replace w := s16.ok
        obtain ⟨ec, ea⟩ := e13
        have he := P.guard.1
        replace P := P.guard.2
        obtain rfl : ec = "NoBody" := List.mem_singleton.mp he
        obtain rfl : C_NoBody = C17 := Value.ref.inj (Option.some.inj (T_NoBody.g.symm.trans g))
        refine h_mixHitA T_NoBody.toExcT p_NoBody_NoBody (fun ax18 haax18 => ?_)
        refine h_ret ?_
        refine h_not ?_
        refine h_isET T_NoBody.toExcT (h_cons (h_var rfl (h_cons (h_tup ?_))))
        refine h_cons (h_c ?_)
        refine h_cons (h_c ?_)
        refine h_cons (h_c ?_)
        refine h_nil (h_clsTup w (by show 3 ≤ sizeLine; decide) fun p21 s20 => h_nil ?_)
        refine h_isETR (.cons (.own _) (.cons (.own _) (.cons (.own _) .nil))) (kitA_f (T_NoBytes.kit p_NoBody_NoBytes) (kitA_f (T_NoLeaf.kit p_NoBody_NoLeaf) (kitA_f (T_NoNumber.kit p_NoBody_NoNumber) kitA_nil))) ?_
        replace st := st.go s20 go0
        replace sj1 := sj1.go s20 go0
        replace w := s20.ok
        refine h_bl ?_
        exact (kr6 _ P.ok) _ _ _ st (Rep.bl _)
      have nf22 := fun (p : Addr) (h : H0 p = none) => st.nn h
      refine fun v11 B8 H9 s10 rn23 => ?_
      have r12 := rn23.rep
      replace rn23 := rn23.ago nf22
      replace st := st.go s10 go0
      replace sj1 := sj1.go s10 go0
      replace w := s10.ok
      refine h_nx ?_
      exact kk5 () _ _ ⟨_, _, sj1, rfl⟩ P.ok
    · rintro a24 _ H26 ⟨B25, o28, s27, rfl⟩ P
      replace st := st.go s27 go0
      replace w := s27.ok
      refine h_nx ?_
      refine h_ret ?_
      refine h_c ?_
      exact P.ok _ _ _ st (Rep.bl _)
theorem ok__law_refused__index_body {f : Addr} {fd : FuncData}  (F : Fun K "_law_refused" "_law_refused" s__law_refused__index_body f fd) {C_NoBody : Addr} (T_NoBody : ExcR K mg "NoBody" C_NoBody) {C_ScrollError : Addr} (T_ScrollError : ExcR K mg "ScrollError" C_ScrollError) {C_NoBytes : Addr} (T_NoBytes : ExcR K mg "NoBytes" C_NoBytes) {C_NoLeaf : Addr} (T_NoLeaf : ExcR K mg "NoLeaf" C_NoLeaf) {C_NoNumber : Addr} (T_NoNumber : ExcR K mg "NoNumber" C_NoNumber) (p_NoBody_NoBody : PySem.W.subIn K (.ref C_NoBody) (.ref C_NoBody) = some true) (p_NoBody_NoBytes : PySem.W.subIn K (.ref C_NoBody) (.ref C_NoBytes) = some false) (p_NoBody_NoLeaf : PySem.W.subIn K (.ref C_NoBody) (.ref C_NoLeaf) = some false) (p_NoBody_NoNumber : PySem.W.subIn K (.ref C_NoBody) (.ref C_NoNumber) = some false) {f_index_body : Addr} {d_index_body : FuncData} (g_index_body : mg "index_body" = some (.ref f_index_body)) (k_index_body : PySem.W.keepIn K (.ref f_index_body) = true) (b_index_body : L2.Binds K d_index_body ["index"] []) (G_index_body : FnOk Pr wo K mg base (L2.CX Pr wo) 4 f_index_body d_index_body ["index"] (sp_index_body K mg)) (bI_isinstance : mg "isinstance" = none) : FnOk Pr wo K mg base CX0 5 f fd ["_law_ask", "_law_thing"] (sp__law_refused__index_body K f_index_body) := by
  refine F.ok sc__law_refused__index_body (fun vs H Q E h => ?_) (fun cdv A outer s H0 vs Q E hr h => ?_)
  · obtain ⟨_, _, _, _, rfl, _⟩ := h; rfl
  · obtain ⟨B0, v_thing, a_thing, w, rfl, r_thing, P⟩ := h
    have w0 := w
    have hu := hu_of hr
    have hu64 := hu64_of hr
    have hu65 := hu65_of hr
    have hr4 : Room 4 _ := hr.mono (by decide)
    refine ⟨_, (pss_cons (ps_tryM (K := K) (Wout := fun _ _ _ _ => False) rfl rfl takes0 (fun W pn xe tk _ => (pss_one (ps_expr (pe_callLS 0 G_index_body hr4 k_index_body b_index_body .nil (fun σ => passAt tk σ) (pa_cons (pv 1) pa_nil))))) (.named (i := 2) sc__law_refused__index_body.nd rfl rfl (T_NoBody.names rfl (by decide)) (fun a oe cls d pn hz hf => (pss_one (ps_ret (pe_not (pe_isET (K := K) (a := a) (cls := cls) (d := d) rfl (fun Dc e1 e2 ec => by subst e1 e2; exact (pe_callB (r := rIsET K Dc a) (call_isET ec hz hf) (by rfl) bI_isinstance PyProof.Rows.boot_isinstance (pa_cons (pv 2) (pa_cons (pe_tup (pa_cons (pe_glob (v := .ref C_NoBytes) (by rfl) T_NoBytes.g rfl) (pa_cons (pe_glob (v := .ref C_NoLeaf) (by rfl) T_NoLeaf.g rfl) (pa_cons (pe_glob (v := .ref C_NoNumber) (by rfl) T_NoNumber.g rfl) pa_nil)))) pa_nil))))))))) (.plain (T_ScrollError.names rfl (by decide)) (fun a oe cls d pn hz hf => (pss_one (ps_ret pe_bl))) .nil)))
      (pss_one (ps_ret pe_bl))), ?_⟩
    unfold l_refused__index_body at P
    have st := Stp.refl (W := []) w
    refine h_seq ?_
    have wj2 := w
    have sj1 := Stp.refl (W := []) w
    refine h_tryJ P (fun (a : Unit) σ' H' => ∃ (B' : Hp) (o_e : Option V), Stp [] B0 H0 B' H' ∧ σ' = [some ((.ref f_index_body)), some (v_thing), o_e]) (fun N3 T4 kk5 kr6 P => ?_) ?_
    · refine h_tryM ?_
      refine h_drop ?_
      refine h_callLS rfl ?_
      refine h_cons ?_
      refine h_var rfl ?_
      refine h_nil ?_
      refine ⟨B0, v_thing, a_thing, w, rfl, (r_thing.mono st.ex), Post.mono2 P.bind (fun e13 P => ?_) (fun x7 P => ?_)⟩
      · skip
        rintro C17 B14 H15 g s16
        replace st := st.go s16 go0
        replace sj1 := sj1.go s16 go0
        replace w := s16.ok
        obtain ⟨ec, ea⟩ := e13
        have he := P.guard.1
        replace P := P.guard.2
        obtain rfl : ec = "NoBody" := List.mem_singleton.mp he
        obtain rfl : C_NoBody = C17 := Value.ref.inj (Option.some.inj (T_NoBody.g.symm.trans g))
        refine h_mixHitA T_NoBody.toExcT p_NoBody_NoBody (fun ax18 haax18 => ?_)
        refine h_ret ?_
        refine h_not ?_
        refine h_isET T_NoBody.toExcT (h_cons (h_var rfl (h_cons (h_tup ?_))))
        refine h_cons (h_c ?_)
        refine h_cons (h_c ?_)
        refine h_cons (h_c ?_)
        refine h_nil (h_clsTup w (by show 3 ≤ sizeLine; decide) fun p21 s20 => h_nil ?_)
        refine h_isETR (.cons (.own _) (.cons (.own _) (.cons (.own _) .nil))) (kitA_f (T_NoBytes.kit p_NoBody_NoBytes) (kitA_f (T_NoLeaf.kit p_NoBody_NoLeaf) (kitA_f (T_NoNumber.kit p_NoBody_NoNumber) kitA_nil))) ?_
        replace st := st.go s20 go0
        replace sj1 := sj1.go s20 go0
        replace w := s20.ok
        refine h_bl ?_
        exact (kr6 _ P.ok) _ _ _ st (Rep.bl _)
      refine fun p22 B8 H9 s10 hn23 m24 => ?_
      have n26 := st.nn hn23
      have n27 := sj1.nn hn23
      replace st := st.go s10 go0
      replace sj1 := sj1.go s10 go0
      replace w := s10.ok
      obtain ⟨B32, e28, k29, g30, r31⟩ := Mu.keep m24
      replace st := g30 _ _ _ st w0 n26
      replace sj1 := g30 _ _ _ sj1 wj2 n27
      replace w := st.ok
      replace r31 : Rep K B32 (.ref p22) (enc x7) := r31
      refine h_nx ?_
      exact kk5 () _ _ ⟨_, _, sj1, rfl⟩ P.ok
    · rintro a33 _ H35 ⟨B34, o37, s36, rfl⟩ P
      replace st := st.go s36 go0
      replace w := s36.ok
      refine h_nx ?_
      refine h_ret ?_
      refine h_c ?_
      exact P.ok _ _ _ st (Rep.bl _)
theorem ok__law_index {f : Addr} {fd : FuncData}  (F : Fun K "_law_index" "_law_index" s__law_index f fd) {f__law_digit : Addr} {d__law_digit : FuncData} (g__law_digit : mg "_law_digit" = some (.ref f__law_digit)) (k__law_digit : PySem.W.keepIn K (.ref f__law_digit) = true) (b__law_digit : L2.Binds K d__law_digit ["_law_state", "_law_base"] []) (G__law_digit : FnOk Pr wo K mg base CX0 1 f__law_digit d__law_digit ["_law_state", "_law_base"] (sp__law_digit K)) (bI_range : mg "range" = none) : FnOk Pr wo K mg base CX0 2 f fd ["_law_state"] (sp__law_index K) := by
  refine F.ok sc__law_index (fun vs H Q E h => ?_) (fun cdv A outer s H0 vs Q E hr h => ?_)
  · obtain ⟨_, _, _, _, rfl, _⟩ := h; rfl
  · obtain ⟨B0, p_state, a_state, w, rfl, m_state, P⟩ := h
    have w0 := w
    have hu := hu_of hr
    have hu64 := hu64_of hr
    have hu65 := hu65_of hr
    have hr1 : Room 1 _ := hr.mono (by decide)
    refine ⟨_, (pss_cons (ps_set (i := 1) sc__law_index.nd rfl (by first | exact Or.inl rfl | exact Or.inr rfl) (pe_lst pa_nil))
      (pss_cons (ps_for PassesOwn.never rfl (pi_range1 (by rfl) bI_range (pa_cons (pe_ix (r := rIxL K) ix_list (pe_lst (pa_cons (pe_call G__law_digit hr1 rfl g__law_digit k__law_digit b__law_digit .nil pass0 (pa_cons (pv 0) (pa_cons pe_int pa_nil))) (pa_cons (pe_call G__law_digit hr1 rfl g__law_digit k__law_digit b__law_digit .nil pass0 (pa_cons (pv 0) (pa_cons pe_int pa_nil))) pa_nil))) (pe_call G__law_digit hr1 rfl g__law_digit k__law_digit b__law_digit .nil pass0 (pa_cons (pv 0) (pa_cons pe_int pa_nil))) (fun _ _ => rfl)) pa_nil)) (pg_name (i := 2) sc__law_index.nd rfl (by first | exact Or.inl rfl | exact Or.inr rfl)) (pss_cons (ps_set (i := 3) sc__law_index.nd rfl (by first | exact Or.inl rfl | exact Or.inr rfl) (pe_call G__law_digit hr1 rfl g__law_digit k__law_digit b__law_digit .nil pass0 (pa_cons (pv 0) (pa_cons (pe_ix (r := rIxL K) ix_list (pe_lst (pa_cons pe_int (pa_cons (pe_op op_add (pe_op op_pow pe_int pe_int) pe_int) pa_nil))) (pe_call G__law_digit hr1 rfl g__law_digit k__law_digit b__law_digit .nil pass0 (pa_cons (pv 0) (pa_cons pe_int pa_nil))) (fun _ _ => rfl)) pa_nil))))
      (pss_cons (ps_set (i := 4) sc__law_index.nd rfl (by first | exact Or.inl rfl | exact Or.inr rfl) (pe_op op_add pe_int (pe_call G__law_digit hr1 rfl g__law_digit k__law_digit b__law_digit .nil pass0 (pa_cons (pv 0) (pa_cons (pe_ix (r := rIxL K) ix_list (pe_lst (pa_cons pe_int (pa_cons (pe_op op_mul pe_int (pe_op op_pow pe_int pe_int)) pa_nil))) (pe_call G__law_digit hr1 rfl g__law_digit k__law_digit b__law_digit .nil pass0 (pa_cons (pv 0) (pa_cons pe_int pa_nil))) (fun _ _ => rfl)) pa_nil)))))
      (pss_cons (ps_set (i := 5) sc__law_index.nd rfl (by first | exact Or.inl rfl | exact Or.inr rfl) (pe_call G__law_digit hr1 rfl g__law_digit k__law_digit b__law_digit .nil pass0 (pa_cons (pv 0) (pa_cons (pe_ix (r := rIxL K) ix_list (pe_lst (pa_cons pe_int (pa_cons (pe_op op_add (pe_op op_pow pe_int pe_int) pe_int) pa_nil))) (pe_call G__law_digit hr1 rfl g__law_digit k__law_digit b__law_digit .nil pass0 (pa_cons (pv 0) (pa_cons pe_int pa_nil))) (fun _ _ => rfl)) pa_nil))))
      (pss_one (ps_expr (pe_bm PySem.F.plainAttrs_list PySem.F.slot_list_append PySem.F.type_list_append mt_append (pv 1) (pa_cons (pe_tup (pa_cons (pe_call G__law_digit hr1 rfl g__law_digit k__law_digit b__law_digit .nil pass0 (pa_cons (pv 0) (pa_cons pe_int pa_nil))) (pa_cons (pe_call G__law_digit hr1 rfl g__law_digit k__law_digit b__law_digit .nil pass0 (pa_cons (pv 0) (pa_cons pe_int pa_nil))) (pa_cons (pe_op op_add pe_int (pe_call G__law_digit hr1 rfl g__law_digit k__law_digit b__law_digit .nil pass0 (pa_cons (pv 0) (pa_cons pe_int pa_nil)))) (pa_cons (pv 3) (pa_cons (pv 4) (pa_cons (pv 5) pa_nil))))))) pa_nil))))))))
      (pss_one (ps_ret (pe_tup (pa_cons (pe_call G__law_digit hr1 rfl g__law_digit k__law_digit b__law_digit .nil pass0 (pa_cons (pv 0) (pa_cons (pe_op op_add (pe_op op_pow pe_int pe_int) pe_int) pa_nil))) (pa_cons (pv 1) pa_nil))))))), ?_⟩
    unfold l_index at P
    have st := Stp.refl (W := [p_state]) w
    refine h_set ?_
    refine h_lst ?_
    refine h_nil ?_
    refine h_newM w (ds := (([] : List (Tp6 Int Int Int Int Int Int))).map enc) (K := K) .nil (fun p1 H2 hn5 s3 m4 => ?_) (by show 0 ≤ sizeLine; decide)
    have n6 := st.nn hn5
    have ne7 := Mu.ne m_state hn5
    replace m_state := m_state.step s3 nm0
    replace st := st.go s3 go0
    replace w := s3.ok
    refine h_seq ?_
    refine h_rng1 ?_
    refine h_cons ?_
    refine h_op ?_
    refine h_lst ?_
    refine h_cons ?_
    refine h_call ?_
    refine h_cons ?_
    refine h_var rfl ?_
    refine h_cons ?_
    refine h_c ?_
    refine h_nil ?_
    refine ⟨B0, p_state, a_state, 5, w, rfl, m_state, (P.bind).mono (fun x8 P => ?_) (fun _ z => z)⟩
    refine fun v12 B9 H10 s11 m_state r13 => ?_
    replace m4 := m4.step s11 (nm1 ne7.symm)
    replace st := st.go s11 (go1 (.inl (by simp)))
    replace w := s11.ok
    cases r13
    refine h_cons ?_
    refine h_call ?_
    refine h_cons ?_
    refine h_var rfl ?_
    refine h_cons ?_
    refine h_c ?_
    refine h_nil ?_
    refine ⟨B9, p_state, x8.2, 40, w, rfl, m_state, (P.bind).mono (fun x14 P => ?_) (fun _ z => z)⟩
    refine fun v18 B15 H16 s17 m_state r19 => ?_
    replace m4 := m4.step s17 (nm1 ne7.symm)
    replace st := st.go s17 (go1 (.inl (by simp)))
    replace w := s17.ok
    cases r19
    refine h_nil ?_
    refine h_newL w (ds := (([x8.1, x14.1] : List Int)).map enc) (K := K) (.cons (Rep.int _) (.cons (Rep.int _) .nil)) (fun p20 B21 H22 s23 r24 => ?_) (by show 2 ≤ sizeLine; decide)
    replace m_state := m_state.step s23 nm0
    replace m4 := m4.step s23 nm0
    replace st := st.go s23 go0
    replace w := s23.ok
    replace r24 : Rep K B21 (.ref p20) (enc ([x8.1, x14.1] : List Int)) := r24
    refine h_call ?_
    refine h_cons ?_
    refine h_var rfl ?_
    refine h_cons ?_
    refine h_c ?_
    refine h_nil ?_
    refine ⟨B21, p_state, x14.2, 2, w, rfl, m_state, (P.bind).mono (fun x25 P => ?_) (fun _ z => z)⟩
    refine fun v29 B26 H27 s28 m_state r30 => ?_
    replace m4 := m4.step s28 (nm1 ne7.symm)
    replace r24 := r24.mono s28.ex
    replace st := st.go s28 (go1 (.inl (by simp)))
    replace w := s28.ok
    cases r30
    obtain ⟨p31, xs32, hv, hs33, hr34⟩ := Rep.sq w r24
    cases hv
    obtain ⟨x35, hx36, P⟩ := P.ix
    obtain ⟨u37, hu, r38⟩ := RepL.atE hr34 hx36
    refine h_ixL hs33 hu ?_
    cases r38
    refine h_nil ?_
    obtain ⟨gz39, P⟩ := P.guard
    have wj41 := w
    have sj40 := Stp.refl (W := [p_state, p1]) w
    refine h_forR1 P gz39 (fun (a : (List Int) × (List (Tp6 Int Int Int Int Int Int))) σ' H' => ∃ (B' : Hp) (o__law_low : Option V) (o__law_high : Option V) (o__law_place : Option V) (o__law_k : Option V), Stp [p_state, p1] B26 H27 B' H' ∧ σ' = [some ((.ref p_state)), some ((.ref p1)), o__law_k, o__law_low, o__law_high, o__law_place] ∧ Mu K B' H' p_state (a.1.map enc) ∧ Mu K B' H' p1 (a.2.map enc)) ⟨_, _, _, _, _, sj40, rfl, m_state, m4⟩ ?_ ?_
    · rintro N42 T43 x48 a47 _ H52 ⟨B51, o54, o55, o56, o57, s53, rfl, m_state, m4⟩ hlox48 hhix48 kk44 kr45 kb46 P
      replace st := st.go s53 (go2 (.inl (by simp)) (.inr n6))
      replace w := s53.ok
      have sj40 := s53
      refine h_gname ?_
      refine h_set ?_
      refine h_call ?_
      refine h_cons ?_
      refine h_var rfl ?_
      refine h_cons ?_
      refine h_op ?_
      refine h_lst ?_
      refine h_cons ?_
      refine h_c ?_
      refine h_cons ?_
      refine h_op ?_
      refine h_op (h_c (h_c (h_pow (k := 1000000000) (by decide +kernel) (by decide +kernel) ?_)))
      refine h_c ?_
      refine h_I0 ?_
      refine h_nil ?_
      refine h_newL w (ds := (([9, (1000000000 + 1)] : List Int)).map enc) (K := K) (.cons (Rep.int _) (.cons (Rep.int _) .nil)) (fun p58 B59 H60 s61 r62 => ?_) (by show 2 ≤ sizeLine; decide)
      replace m_state := m_state.step s61 nm0
      replace m4 := m4.step s61 nm0
      replace st := st.go s61 go0
      replace sj40 := sj40.go s61 go0
      replace w := s61.ok
      replace r62 : Rep K B59 (.ref p58) (enc ([9, (1000000000 + 1)] : List Int)) := r62
      refine h_call ?_
      refine h_cons ?_
      refine h_var rfl ?_
      refine h_cons ?_
      refine h_c ?_
      refine h_nil ?_
      refine ⟨B59, p_state, a47.1, 2, w, rfl, m_state, (P.bind).mono (fun x63 P => ?_) (fun _ z => z)⟩
      refine fun v67 B64 H65 s66 m_state r68 => ?_
      replace m4 := m4.step s66 (nm1 ne7.symm)
      replace r62 := r62.mono s66.ex
      replace st := st.go s66 (go1 (.inl (by simp)))
      replace sj40 := sj40.go s66 (go1 (.inl (by simp)))
      replace w := s66.ok
      cases r68
      obtain ⟨p69, xs70, hv, hs71, hr72⟩ := Rep.sq w r62
      cases hv
      obtain ⟨x73, hx74, P⟩ := P.ix
      obtain ⟨u75, hu, r76⟩ := RepL.atE hr72 hx74
      refine h_ixL hs71 hu ?_
      cases r76
      refine h_nil ?_
      refine ⟨B64, p_state, x63.2, x73, w, rfl, m_state, (P.bind).mono (fun x77 P => ?_) (fun _ z => z)⟩
      refine fun v81 B78 H79 s80 m_state r82 => ?_
      replace m4 := m4.step s80 (nm1 ne7.symm)
      replace st := st.go s80 (go1 (.inl (by simp)))
      replace sj40 := sj40.go s80 (go1 (.inl (by simp)))
      replace w := s80.ok
      cases r82
      refine h_set ?_
      refine h_op ?_
      refine h_c ?_
      refine h_call ?_
      refine h_cons ?_
      refine h_var rfl ?_
      refine h_cons ?_
      refine h_op ?_
      refine h_lst ?_
      refine h_cons ?_
      refine h_c ?_
      refine h_cons ?_
      refine h_op ?_
      refine h_c ?_
      refine h_op (h_c (h_c (h_pow (k := 1000000000) (by decide +kernel) (by decide +kernel) ?_)))
      refine h_I (.inl ⟨by decide +kernel, by decide +kernel⟩) ?_
      refine h_nil ?_
      refine h_newL w (ds := (([9, (2 * 1000000000)] : List Int)).map enc) (K := K) (.cons (Rep.int _) (.cons (Rep.int _) .nil)) (fun p83 B84 H85 s86 r87 => ?_) (by show 2 ≤ sizeLine; decide)
      replace m_state := m_state.step s86 nm0
      replace m4 := m4.step s86 nm0
      replace st := st.go s86 go0
      replace sj40 := sj40.go s86 go0
      replace w := s86.ok
      replace r87 : Rep K B84 (.ref p83) (enc ([9, (2 * 1000000000)] : List Int)) := r87
      refine h_call ?_
      refine h_cons ?_
      refine h_var rfl ?_
      refine h_cons ?_
      refine h_c ?_
      refine h_nil ?_
      refine ⟨B84, p_state, x77.2, 2, w, rfl, m_state, (P.bind).mono (fun x88 P => ?_) (fun _ z => z)⟩
      refine fun v92 B89 H90 s91 m_state r93 => ?_
      replace m4 := m4.step s91 (nm1 ne7.symm)
      replace r87 := r87.mono s91.ex
      replace st := st.go s91 (go1 (.inl (by simp)))
      replace sj40 := sj40.go s91 (go1 (.inl (by simp)))
      replace w := s91.ok
      cases r93
      obtain ⟨p94, xs95, hv, hs96, hr97⟩ := Rep.sq w r87
      cases hv
      obtain ⟨x98, hx99, P⟩ := P.ix
      obtain ⟨u100, hu, r101⟩ := RepL.atE hr97 hx99
      refine h_ixL hs96 hu ?_
      cases r101
      refine h_nil ?_
      refine ⟨B89, p_state, x88.2, x98, w, rfl, m_state, (P.bind).mono (fun x102 P => ?_) (fun _ z => z)⟩
      refine fun v106 B103 H104 s105 m_state r107 => ?_
      replace m4 := m4.step s105 (nm1 ne7.symm)
      replace st := st.go s105 (go1 (.inl (by simp)))
      replace sj40 := sj40.go s105 (go1 (.inl (by simp)))
      replace w := s105.ok
      cases r107
      refine h_I0 ?_
      replace P := P.lt
      generalize hx : (1 + x102.1) = x108 at P ⊢
      refine h_set ?_
      refine h_call ?_
      refine h_cons ?_
      refine h_var rfl ?_
      refine h_cons ?_
      refine h_op ?_
      refine h_lst ?_
      refine h_cons ?_
      refine h_c ?_
      refine h_cons ?_
      refine h_op ?_
      refine h_op (h_c (h_c (h_pow (k := 1000000) (by decide +kernel) (by decide +kernel) ?_)))
      refine h_c ?_
      refine h_I0 ?_
      refine h_nil ?_
      refine h_newL w (ds := (([500, (1000000 + 1)] : List Int)).map enc) (K := K) (.cons (Rep.int _) (.cons (Rep.int _) .nil)) (fun p109 B110 H111 s112 r113 => ?_) (by show 2 ≤ sizeLine; decide)
      replace m_state := m_state.step s112 nm0
      replace m4 := m4.step s112 nm0
      replace st := st.go s112 go0
      replace sj40 := sj40.go s112 go0
      replace w := s112.ok
      replace r113 : Rep K B110 (.ref p109) (enc ([500, (1000000 + 1)] : List Int)) := r113
      refine h_call ?_
      refine h_cons ?_
      refine h_var rfl ?_
      refine h_cons ?_
      refine h_c ?_
      refine h_nil ?_
      refine ⟨B110, p_state, x102.2, 2, w, rfl, m_state, (P.bind).mono (fun x114 P => ?_) (fun _ z => z)⟩
      refine fun v118 B115 H116 s117 m_state r119 => ?_
      replace m4 := m4.step s117 (nm1 ne7.symm)
      replace r113 := r113.mono s117.ex
      replace st := st.go s117 (go1 (.inl (by simp)))
      replace sj40 := sj40.go s117 (go1 (.inl (by simp)))
      replace w := s117.ok
      cases r119
      obtain ⟨p120, xs121, hv, hs122, hr123⟩ := Rep.sq w r113
      cases hv
      obtain ⟨x124, hx125, P⟩ := P.ix
      obtain ⟨u126, hu, r127⟩ := RepL.atE hr123 hx125
      refine h_ixL hs122 hu ?_
      cases r127
      refine h_nil ?_
      refine ⟨B115, p_state, x114.2, x124, w, rfl, m_state, (P.bind).mono (fun x128 P => ?_) (fun _ z => z)⟩
      refine fun v132 B129 H130 s131 m_state r133 => ?_
      replace m4 := m4.step s131 (nm1 ne7.symm)
      replace st := st.go s131 (go1 (.inl (by simp)))
      replace sj40 := sj40.go s131 (go1 (.inl (by simp)))
      replace w := s131.ok
      cases r133
      refine h_drop ?_
      refine h_bm ?_
      refine h_var rfl ?_
      refine h_bmL m4 ?_
      refine h_cons ?_
      refine h_tup ?_
      refine h_cons ?_
      refine h_call ?_
      refine h_cons ?_
      refine h_var rfl ?_
      refine h_cons ?_
      refine h_c ?_
      refine h_nil ?_
      refine ⟨B129, p_state, x128.2, 8, w, rfl, m_state, (P.bind).mono (fun x134 P => ?_) (fun _ z => z)⟩
      refine fun v138 B135 H136 s137 m_state r139 => ?_
      replace m4 := m4.step s137 (nm1 ne7.symm)
      replace st := st.go s137 (go1 (.inl (by simp)))
      replace sj40 := sj40.go s137 (go1 (.inl (by simp)))
      replace w := s137.ok
      cases r139
      refine h_cons ?_
      refine h_call ?_
      refine h_cons ?_
      refine h_var rfl ?_
      refine h_cons ?_
      refine h_c ?_
      refine h_nil ?_
      refine ⟨B135, p_state, x134.2, 200, w, rfl, m_state, (P.bind).mono (fun x140 P => ?_) (fun _ z => z)⟩
      refine fun v144 B141 H142 s143 m_state r145 => ?_
      replace m4 := m4.step s143 (nm1 ne7.symm)
      replace st := st.go s143 (go1 (.inl (by simp)))
      replace sj40 := sj40.go s143 (go1 (.inl (by simp)))
      replace w := s143.ok
      cases r145
      refine h_cons ?_
      refine h_op ?_
      refine h_c ?_
      refine h_call ?_
      refine h_cons ?_
      refine h_var rfl ?_
      refine h_cons ?_
      refine h_c ?_
      refine h_nil ?_
      refine ⟨B141, p_state, x140.2, 200, w, rfl, m_state, (P.bind).mono (fun x146 P => ?_) (fun _ z => z)⟩
      refine fun v150 B147 H148 s149 m_state r151 => ?_
      replace m4 := m4.step s149 (nm1 ne7.symm)
      replace st := st.go s149 (go1 (.inl (by simp)))
      replace sj40 := sj40.go s149 (go1 (.inl (by simp)))
      replace w := s149.ok
      cases r151
      refine h_I0 ?_
      refine h_cons ?_
      refine h_var rfl ?_
      refine h_cons ?_
      refine h_var rfl ?_
      refine h_cons ?_
      refine h_var rfl ?_
      refine h_nil ?_
      refine h_newT w (K := K) (.cons (Rep.int _) (.cons (Rep.int _) (.cons (Rep.int _) (.cons (Rep.int _) (.cons (Rep.int _) (.cons (Rep.int _) .nil)))))) (fun p152 B153 H154 s155 r156 => ?_) (by show 6 ≤ sizeLine; decide)
      replace m_state := m_state.step s155 nm0
      replace m4 := m4.step s155 nm0
      replace st := st.go s155 go0
      replace sj40 := sj40.go s155 go0
      replace w := s155.ok
      replace r156 : Rep K B153 (.ref p152) (enc (⟨x134.1, x140.1, (1 + x146.1), x77.1, x108, x128.1⟩ : (Tp6 Int Int Int Int Int Int))) := r156
      refine h_nil ?_
      obtain ⟨gd, P⟩ := P.guard
      refine h_append (b := (⟨x134.1, x140.1, (1 + x146.1), x77.1, x108, x128.1⟩ : (Tp6 Int Int Int Int Int Int))) w m4 r156 gd (fun H157 s158 m4 => ?_)
      replace m_state := m_state.step s158 (nm1 ne7)
      replace st := st.go s158 (go1 (.inr n6))
      replace sj40 := sj40.go s158 (go1 (.inl (by simp)))
      replace w := s158.ok
      refine h_nx ?_
      exact kk44 (x146.2, (a47.2 ++ [(⟨x134.1, x140.1, (1 + x146.1), x77.1, x108, x128.1⟩ : (Tp6 Int Int Int Int Int Int))])) _ _ ⟨_, _, _, _, _, sj40, rfl, m_state, m4⟩ P.ok
    · rintro a159 _ H161 ⟨B160, o163, o164, o165, o166, s162, rfl, m_state, m4⟩ P
      replace st := st.go s162 (go2 (.inl (by simp)) (.inr n6))
      replace w := s162.ok
      refine h_nx ?_
      refine h_ret ?_
      refine h_tup ?_
      refine h_cons ?_
      refine h_call ?_
      refine h_cons ?_
      refine h_var rfl ?_
      refine h_cons ?_
      refine h_op ?_
      refine h_op (h_c (h_c (h_pow (k := 1000000000) (by decide +kernel) (by decide +kernel) ?_)))
      refine h_c ?_
      refine h_I0 ?_
      refine h_nil ?_
      refine ⟨B160, p_state, a159.1, (1000000000 + 1), w, rfl, m_state, (P.bind).mono (fun x167 P => ?_) (fun _ z => z)⟩
      refine fun v171 B168 H169 s170 m_state r172 => ?_
      replace m4 := m4.step s170 (nm1 ne7.symm)
      replace st := st.go s170 (go1 (.inl (by simp)))
      replace w := s170.ok
      cases r172
      refine h_cons ?_
      refine h_var rfl ?_
      refine h_nil ?_
      obtain ⟨B177, e173, k174, g175, r176⟩ := Mu.keep m4
      replace st := g175 _ _ _ st w0 n6
      replace m_state := m_state.kp e173 k174 ne7
      replace w := st.ok
      replace r176 : Rep K B177 (.ref p1) (enc a159.2) := r176
      refine h_newT w (K := K) (.cons (Rep.int _) (.cons r176 .nil)) (fun p178 B179 H180 s181 r182 => ?_) (by show 2 ≤ sizeLine; decide)
      replace m_state := m_state.step s181 nm0
      replace r176 := r176.mono s181.ex
      replace st := st.go s181 go0
      replace w := s181.ok
      replace r182 : Rep K B179 (.ref p178) (enc (⟨x167.1, a159.2⟩ : (Tp2 Int (List (Tp6 Int Int Int Int Int Int))))) := r182
      exact P.ok _ _ _ st m_state r182
theorem ok__law_no_row {f : Addr} {fd : FuncData}  (F : Fun K "_law_no_row" "_law_no_row" s__law_no_row f fd) {f__law_digit : Addr} {d__law_digit : FuncData} (g__law_digit : mg "_law_digit" = some (.ref f__law_digit)) (k__law_digit : PySem.W.keepIn K (.ref f__law_digit) = true) (b__law_digit : L2.Binds K d__law_digit ["_law_state", "_law_base"] []) (G__law_digit : FnOk Pr wo K mg base CX0 1 f__law_digit d__law_digit ["_law_state", "_law_base"] (sp__law_digit K)) (bI_tuple : mg "tuple" = none) : FnOk Pr wo K mg base CX0 2 f fd ["_law_state"] (sp__law_no_row K) := by
  refine F.ok sc__law_no_row (fun vs H Q E h => ?_) (fun cdv A outer s H0 vs Q E hr h => ?_)
  · obtain ⟨_, _, _, _, rfl, _⟩ := h; rfl
  · obtain ⟨B0, p_state, a_state, w, rfl, m_state, P⟩ := h
    have w0 := w
    have hu := hu_of hr
    have hu64 := hu64_of hr
    have hu65 := hu65_of hr
    have hr1 : Room 1 _ := hr.mono (by decide)
    refine ⟨_, (pss_cons (ps_set (i := 1) sc__law_no_row.nd rfl (by first | exact Or.inl rfl | exact Or.inr rfl) (pe_lst (pa_cons pe_int (pa_cons pe_int (pa_cons pe_int (pa_cons pe_int (pa_cons pe_int (pa_cons pe_int pa_nil))))))))
      (pss_cons (ps_set (i := 2) sc__law_no_row.nd rfl (by first | exact Or.inl rfl | exact Or.inr rfl) (pe_call G__law_digit hr1 rfl g__law_digit k__law_digit b__law_digit .nil pass0 (pa_cons (pv 0) (pa_cons pe_int pa_nil))))
      (pss_cons (ps_set (i := 3) sc__law_no_row.nd rfl (by first | exact Or.inl rfl | exact Or.inr rfl) (pe_ix (r := rIxL K) ix_list (pe_lst (pa_cons pe_int (pa_cons pe_int (pa_cons pe_int (pa_cons (pe_op op_pow pe_int pe_int) (pa_cons (pe_op op_mul pe_int (pe_op op_pow pe_int pe_int)) (pa_cons (pe_op op_pow pe_int pe_int) pa_nil))))))) (pv 2) (fun _ _ => rfl)))
      (pss_cons (ps_asg (pe_ix (r := rIxL K) ix_list (pe_lst (pa_cons (pe_un un_neg pe_int) (pa_cons (pe_op op_add (pv 3) pe_int) (pa_cons pe_non (pa_cons (pe_cmpR op_eq pe_int pe_int (nomark _)) (pa_cons pe_str (pa_cons (pe_tup (pa_cons pe_int pa_nil)) pa_nil))))))) (pe_call G__law_digit hr1 rfl g__law_digit k__law_digit b__law_digit .nil pass0 (pa_cons (pv 0) (pa_cons pe_int pa_nil))) (fun _ _ => rfl)) (pg_sub (pv 1) (pv 2) set_list))
      (pss_cons (ps_if (PW.pt (pw_or (pt_cmpR op_eq (pv 2) pe_int (nomark _)) (pw_or1 (pt_cmpR op_eq (pv 2) pe_int (nomark _))))) (pss_one (ps_asg (pe_ix (r := rIxL K) ix_list (pe_lst (pa_cons pe_int (pa_cons (pe_ix (r := rIxL K) ix_list (pv 1) (pv 2) (fun _ _ => rfl)) pa_nil))) (pe_call G__law_digit hr1 rfl g__law_digit k__law_digit b__law_digit .nil pass0 (pa_cons (pv 0) (pa_cons pe_int pa_nil))) (fun _ _ => rfl)) (pg_sub (pv 1) (pv 2) set_list))) pss_nil)
      (pss_cons (ps_set (i := 4) sc__law_no_row.nd rfl (by first | exact Or.inl rfl | exact Or.inr rfl) (pe_lst (pa_cons (pe_callTy (r := rTupY K) cr_tuple (by rfl) bI_tuple Y.boot_tuple (pa_cons (pv 1) pa_nil)) (pa_cons (pe_callTy (r := rTupY K) cr_tuple (by rfl) bI_tuple Y.boot_tuple (pa_cons (pv 1) pa_nil)) (pa_cons (pe_tup (pa_cons pe_int (pa_cons pe_int (pa_cons pe_int (pa_cons pe_int (pa_cons pe_int pa_nil)))))) (pa_cons (pe_tup (pa_cons pe_int (pa_cons pe_int (pa_cons pe_int (pa_cons pe_int (pa_cons pe_int (pa_cons pe_int (pa_cons pe_int pa_nil)))))))) (pa_cons (pe_lst (pa_cons pe_int (pa_cons pe_int (pa_cons pe_int (pa_cons pe_int (pa_cons pe_int (pa_cons pe_int pa_nil))))))) (pa_cons pe_non (pa_cons pe_str (pa_cons (pe_tup pa_nil) pa_nil))))))))))
      (pss_one (ps_ret (pe_ix (r := rIxL K) ix_list (pv 4) (pe_call G__law_digit hr1 rfl g__law_digit k__law_digit b__law_digit .nil pass0 (pa_cons (pv 0) (pa_cons pe_int pa_nil))) (fun _ _ => rfl)))))))))), ?_⟩
    unfold l_no_row at P
    have st := Stp.refl (W := [p_state]) w
    refine h_set ?_
    refine h_lst ?_
    refine h_cons ?_
    refine h_c ?_
    refine h_cons ?_
    refine h_c ?_
    refine h_cons ?_
    refine h_c ?_
    refine h_cons ?_
    refine h_c ?_
    refine h_cons ?_
    refine h_c ?_
    refine h_cons ?_
    refine h_c ?_
    refine h_nil ?_
    refine h_newM w (ds := (([(enc (1 : Int)), (enc (2 : Int)), (enc (3 : Int)), (enc (4 : Int)), (enc (5 : Int)), (enc (6 : Int))] : List D)).map enc) (K := K) (.cons (Rep.int _) (.cons (Rep.int _) (.cons (Rep.int _) (.cons (Rep.int _) (.cons (Rep.int _) (.cons (Rep.int _) .nil)))))) (fun p1 H2 hn5 s3 m4 => ?_) (by show 6 ≤ sizeLine; decide)
    have n6 := st.nn hn5
    have ne7 := Mu.ne m_state hn5
    replace m_state := m_state.step s3 nm0
    replace st := st.go s3 go0
    replace w := s3.ok
    refine h_set ?_
    refine h_call ?_
    refine h_cons ?_
    refine h_var rfl ?_
    refine h_cons ?_
    refine h_c ?_
    refine h_nil ?_
    refine ⟨B0, p_state, a_state, 6, w, rfl, m_state, (P.bind).mono (fun x8 P => ?_) (fun _ z => z)⟩
    refine fun v12 B9 H10 s11 m_state r13 => ?_
    replace m4 := m4.step s11 (nm1 ne7.symm)
    replace st := st.go s11 (go1 (.inl (by simp)))
    replace w := s11.ok
    cases r13
    refine h_set ?_
    refine h_op ?_
    refine h_lst ?_
    refine h_cons ?_
    refine h_c ?_
    refine h_cons ?_
    refine h_c ?_
    refine h_cons ?_
    refine h_c ?_
    refine h_cons ?_
    refine h_op (h_c (h_c (h_pow (k := 1000000000) (by decide +kernel) (by decide +kernel) ?_)))
    refine h_cons ?_
    refine h_op ?_
    refine h_c ?_
    refine h_op (h_c (h_c (h_pow (k := 1000000000) (by decide +kernel) (by decide +kernel) ?_)))
    refine h_I (.inl ⟨by decide +kernel, by decide +kernel⟩) ?_
    refine h_cons ?_
    refine h_op (h_c (h_c (h_pow (k := 1000000) (by decide +kernel) (by decide +kernel) ?_)))
    refine h_nil ?_
    refine h_newL w (ds := (([7, 199, 200, 1000000000, (2 * 1000000000), 1000000] : List Int)).map enc) (K := K) (.cons (Rep.int _) (.cons (Rep.int _) (.cons (Rep.int _) (.cons (Rep.int _) (.cons (Rep.int _) (.cons (Rep.int _) .nil)))))) (fun p14 B15 H16 s17 r18 => ?_) (by show 6 ≤ sizeLine; decide)
    replace m_state := m_state.step s17 nm0
    replace m4 := m4.step s17 nm0
    replace st := st.go s17 go0
    replace w := s17.ok
    replace r18 : Rep K B15 (.ref p14) (enc ([7, 199, 200, 1000000000, (2 * 1000000000), 1000000] : List Int)) := r18
    refine h_var rfl ?_
    obtain ⟨p19, xs20, hv, hs21, hr22⟩ := Rep.sq w r18
    cases hv
    obtain ⟨x23, hx24, P⟩ := P.ix
    obtain ⟨u25, hu, r26⟩ := RepL.atE hr22 hx24
    refine h_ixL hs21 hu ?_
    cases r26
    refine h_seq ?_
    refine h_asg ?_
    refine h_op ?_
    refine h_lst ?_
    refine h_cons ?_
    refine h_un ?_
    refine h_c ?_
    refine h_U ?_
    refine h_cons ?_
    refine h_op ?_
    refine h_var rfl ?_
    refine h_c ?_
    refine h_I0 ?_
    refine h_cons ?_
    refine h_c ?_
    refine h_cons ?_
    refine h_op ?_
    refine h_c ?_
    refine h_c ?_
    refine h_eqI ?_
    refine h_cons ?_
    refine h_c ?_
    refine h_cons ?_
    refine h_tup ?_
    refine h_cons ?_
    refine h_c ?_
    refine h_nil ?_
    refine h_newT w (K := K) (.cons (Rep.int _) .nil) (fun p27 B28 H29 s30 r31 => ?_) (by show 1 ≤ sizeLine; decide)
    replace m_state := m_state.step s30 nm0
    replace m4 := m4.step s30 nm0
    replace st := st.go s30 go0
    replace w := s30.ok
    replace r31 : Rep K B28 (.ref p27) (enc (⟨1⟩ : (Tp1 Int))) := r31
    refine h_nil ?_
    refine h_newL w (ds := (([(enc ((-1) : Int)), (enc ((x23 + 1) : Int)), (enc ()), (enc (decide (1 = 1))), (enc ("1" : Str)), (enc (⟨1⟩ : (Tp1 Int)))] : List D)).map enc) (K := K) (.cons (Rep.int _) (.cons (Rep.int _) (.cons Rep.non (.cons (Rep.bl _) (.cons (Rep.str _) (.cons r31 .nil)))))) (fun p32 B33 H34 s35 r36 => ?_) (by show 6 ≤ sizeLine; decide)
    replace m_state := m_state.step s35 nm0
    replace m4 := m4.step s35 nm0
    replace st := st.go s35 go0
    replace w := s35.ok
    replace r36 : Rep K B33 (.ref p32) (enc ([(enc ((-1) : Int)), (enc ((x23 + 1) : Int)), (enc ()), (enc (decide (1 = 1))), (enc ("1" : Str)), (enc (⟨1⟩ : (Tp1 Int)))] : List D)) := r36
    refine h_call ?_
    refine h_cons ?_
    refine h_var rfl ?_
    refine h_cons ?_
    refine h_c ?_
    refine h_nil ?_
    refine ⟨B33, p_state, x8.2, 6, w, rfl, m_state, (P.bind).mono (fun x37 P => ?_) (fun _ z => z)⟩
    refine fun v41 B38 H39 s40 m_state r42 => ?_
    replace m4 := m4.step s40 (nm1 ne7.symm)
    replace r36 := r36.mono s40.ex
    replace st := st.go s40 (go1 (.inl (by simp)))
    replace w := s40.ok
    cases r42
    obtain ⟨p43, xs44, hv, hs45, hr46⟩ := Rep.sq w r36
    cases hv
    obtain ⟨x47, hx48, P⟩ := P.ix
    obtain ⟨u49, hu, r50⟩ := RepL.atE hr46 hx48
    refine h_ixL hs45 hu ?_
    refine h_sub ?_
    refine h_var rfl ?_
    refine h_var rfl ?_
    obtain ⟨j52, hj53, P⟩ := P.set
    refine h_setL (b := x47) w m4 r50 hj53 (fun H54 s55 m4 => ?_)
    replace m_state := m_state.step s55 (nm1 ne7)
    replace st := st.go s55 (go1 (.inr n6))
    replace w := s55.ok
    generalize hl : List.set ([(enc (1 : Int)), (enc (2 : Int)), (enc (3 : Int)), (enc (4 : Int)), (enc (5 : Int)), (enc (6 : Int))] : List D) j52 x47 = x51 at *
    refine h_nx ?_
    have wj57 := w
    have sj56 := Stp.refl (W := [p1, p_state]) w
    refine h_joinS P (fun (a : (List D) × (List Int)) σ' H' => ∃ (B' : Hp), Stp [p1, p_state] B38 H54 B' H' ∧ σ' = [some ((.ref p_state)), some ((.ref p1)), some (.int x8.1), some (.int x23), none] ∧ Mu K B' H' p1 (a.1.map enc) ∧ Mu K B' H' p_state (a.2.map enc)) (fun N kk58 P => h_if ?_) ?_
    · skip
      have wj60 := w
      have sj59 := Stp.refl (W := []) w
      refine h_condJ P (fun H' => ∃ B', Stp [] B38 H54 B' H') (fun N kk61 P => ?_) ?_
      · skip
        refine h_tor ?_
        refine h_test ?_
        refine h_op ?_
        refine h_var rfl ?_
        refine h_c ?_
        refine h_eqI ?_
        refine h_bl ?_
        refine h_ite (fun c1 => ?_) (fun c1 => ?_)
        · replace P := P.iteT c1
          exact kk61 _ _ ⟨_, sj59⟩ P.ok
        · replace P := P.iteF c1
          refine h_test ?_
          refine h_op ?_
          refine h_var rfl ?_
          refine h_c ?_
          refine h_eqI ?_
          refine h_bl ?_
          exact kk61 _ _ ⟨_, sj59⟩ P.ok
      rintro b62 H64 ⟨B63, s65⟩ P
      replace m_state := m_state.step s65 nm0
      replace m4 := m4.step s65 nm0
      replace st := st.go s65 go0
      replace sj56 := sj56.go s65 go0
      replace w := s65.ok
      refine h_ite (fun c1 => ?_) (fun c1 => ?_)
      · replace P := P.iteT c1
        refine h_asg ?_
        refine h_op ?_
        refine h_lst ?_
        refine h_cons ?_
        refine h_c ?_
        refine h_cons ?_
        refine h_op ?_
        refine h_var rfl ?_
        refine h_var rfl ?_
        obtain ⟨xs67, hv, hs68, hr69⟩ := Mu.sq m4
        obtain ⟨x70, hx71, P⟩ := P.ix
        obtain ⟨u72, hu, r73⟩ := RepL.atE hr69 hx71
        refine h_ixL hs68 hu ?_
        refine h_nil ?_
        refine h_newL w (ds := (([(enc (0 : Int)), x70] : List D)).map enc) (K := K) (.cons (Rep.int _) (.cons r73 .nil)) (fun p74 B75 H76 s77 r78 => ?_) (by show 2 ≤ sizeLine; decide)
        replace m_state := m_state.step s77 nm0
        replace m4 := m4.step s77 nm0
        replace st := st.go s77 go0
        replace sj56 := sj56.go s77 go0
        replace w := s77.ok
        replace r78 : Rep K B75 (.ref p74) (enc ([(enc (0 : Int)), x70] : List D)) := r78
        refine h_call ?_
        refine h_cons ?_
        refine h_var rfl ?_
        refine h_cons ?_
        refine h_c ?_
        refine h_nil ?_
        refine ⟨B75, p_state, x37.2, 2, w, rfl, m_state, (P.bind).mono (fun x79 P => ?_) (fun _ z => z)⟩
        refine fun v83 B80 H81 s82 m_state r84 => ?_
        replace m4 := m4.step s82 (nm1 ne7.symm)
        replace r78 := r78.mono s82.ex
        replace st := st.go s82 (go1 (.inl (by simp)))
        replace sj56 := sj56.go s82 (go1 (.inl (by simp)))
        replace w := s82.ok
        cases r84
        obtain ⟨p85, xs86, hv, hs87, hr88⟩ := Rep.sq w r78
        cases hv
        obtain ⟨x89, hx90, P⟩ := P.ix
        obtain ⟨u91, hu, r92⟩ := RepL.atE hr88 hx90
        refine h_ixL hs87 hu ?_
        refine h_sub ?_
        refine h_var rfl ?_
        refine h_var rfl ?_
        obtain ⟨j94, hj95, P⟩ := P.set
        refine h_setL (b := x89) w m4 r92 hj95 (fun H96 s97 m4 => ?_)
        replace m_state := m_state.step s97 (nm1 ne7)
        replace st := st.go s97 (go1 (.inr n6))
        replace sj56 := sj56.go s97 (go1 (.inl (by simp)))
        replace w := s97.ok
        generalize hl : List.set x51 j94 x89 = x93 at *
        refine h_nx ?_
        exact kk58 (x93, x79.2) _ _ ⟨_, sj56, rfl, m4, m_state⟩ P.ok
      · replace P := P.iteF c1
        refine h_next ?_
        refine h_nx ?_
        exact kk58 (x51, x37.2) _ _ ⟨_, sj56, rfl, m4, m_state⟩ P.ok
    rintro a98 _ H100 ⟨B99, s101, rfl, m4, m_state⟩ P
    replace st := st.go s101 (go2 (.inr n6) (.inl (by simp)))
    replace w := s101.ok
    refine h_set ?_
    refine h_lst ?_
    refine h_cons ?_
    refine h_cb ?_
    refine h_cons ?_
    refine h_var rfl ?_
    refine h_nil ?_
    obtain ⟨xs103, hv, hs104, hr105⟩ := Mu.sq m4
    refine h_tupL hs104 (h_nwT w (K := K) hr105 (fun p106 B107 H108 s109 r110 => ?_))
    replace m_state := m_state.step s109 nm0
    replace m4 := m4.step s109 nm0
    replace st := st.go s109 go0
    replace w := s109.ok
    refine h_cons ?_
    refine h_cb ?_
    refine h_cons ?_
    refine h_var rfl ?_
    refine h_nil ?_
    obtain ⟨xs112, hv, hs113, hr114⟩ := Mu.sq m4
    refine h_tupL hs113 (h_nwT w (K := K) hr114 (fun p115 B116 H117 s118 r119 => ?_))
    replace m_state := m_state.step s118 nm0
    replace m4 := m4.step s118 nm0
    replace r110 := r110.mono s118.ex
    replace st := st.go s118 go0
    replace w := s118.ok
    refine h_cons ?_
    refine h_tup ?_
    refine h_cons ?_
    refine h_c ?_
    refine h_cons ?_
    refine h_c ?_
    refine h_cons ?_
    refine h_c ?_
    refine h_cons ?_
    refine h_c ?_
    refine h_cons ?_
    refine h_c ?_
    refine h_nil ?_
    refine h_newT w (K := K) (.cons (Rep.int _) (.cons (Rep.int _) (.cons (Rep.int _) (.cons (Rep.int _) (.cons (Rep.int _) .nil))))) (fun p120 B121 H122 s123 r124 => ?_) (by show 5 ≤ sizeLine; decide)
    replace m_state := m_state.step s123 nm0
    replace m4 := m4.step s123 nm0
    replace r110 := r110.mono s123.ex
    replace r119 := r119.mono s123.ex
    replace st := st.go s123 go0
    replace w := s123.ok
    replace r124 : Rep K B121 (.ref p120) (enc (⟨1, 2, 3, 4, 5⟩ : (Tp5 Int Int Int Int Int))) := r124
    refine h_cons ?_
    refine h_tup ?_
    refine h_cons ?_
    refine h_c ?_
    refine h_cons ?_
    refine h_c ?_
    refine h_cons ?_
    refine h_c ?_
    refine h_cons ?_
    refine h_c ?_
    refine h_cons ?_
    refine h_c ?_
    refine h_cons ?_
    refine h_c ?_
    refine h_cons ?_
    refine h_c ?_
    refine h_nil ?_
    refine h_newT w (K := K) (.cons (Rep.int _) (.cons (Rep.int _) (.cons (Rep.int _) (.cons (Rep.int _) (.cons (Rep.int _) (.cons (Rep.int _) (.cons (Rep.int _) .nil))))))) (fun p125 B126 H127 s128 r129 => ?_) (by show 7 ≤ sizeLine; decide)
    replace m_state := m_state.step s128 nm0
    replace m4 := m4.step s128 nm0
    replace r110 := r110.mono s128.ex
    replace r119 := r119.mono s128.ex
    replace r124 := r124.mono s128.ex
    replace st := st.go s128 go0
    replace w := s128.ok
    replace r129 : Rep K B126 (.ref p125) (enc (⟨1, 2, 3, 4, 5, 6, 7⟩ : (Tp7 Int Int Int Int Int Int Int))) := r129
    refine h_cons ?_
    refine h_lst ?_
    refine h_cons ?_
    refine h_c ?_
    refine h_cons ?_
    refine h_c ?_
    refine h_cons ?_
    refine h_c ?_
    refine h_cons ?_
    refine h_c ?_
    refine h_cons ?_
    refine h_c ?_
    refine h_cons ?_
    refine h_c ?_
    refine h_nil ?_
    refine h_newL w (ds := (([1, 2, 3, 4, 5, 6] : List Int)).map enc) (K := K) (.cons (Rep.int _) (.cons (Rep.int _) (.cons (Rep.int _) (.cons (Rep.int _) (.cons (Rep.int _) (.cons (Rep.int _) .nil)))))) (fun p130 B131 H132 s133 r134 => ?_) (by show 6 ≤ sizeLine; decide)
    replace m_state := m_state.step s133 nm0
    replace m4 := m4.step s133 nm0
    replace r110 := r110.mono s133.ex
    replace r119 := r119.mono s133.ex
    replace r124 := r124.mono s133.ex
    replace r129 := r129.mono s133.ex
    replace st := st.go s133 go0
    replace w := s133.ok
    replace r134 : Rep K B131 (.ref p130) (enc ([1, 2, 3, 4, 5, 6] : List Int)) := r134
    refine h_cons ?_
    refine h_c ?_
    refine h_cons ?_
    refine h_c ?_
    refine h_cons ?_
    refine h_tup ?_
    refine h_nil ?_
    refine h_newT w (K := K) .nil (fun p135 B136 H137 s138 r139 => ?_) (by show 0 ≤ sizeLine; decide)
    replace m_state := m_state.step s138 nm0
    replace m4 := m4.step s138 nm0
    replace r110 := r110.mono s138.ex
    replace r119 := r119.mono s138.ex
    replace r124 := r124.mono s138.ex
    replace r129 := r129.mono s138.ex
    replace r134 := r134.mono s138.ex
    replace st := st.go s138 go0
    replace w := s138.ok
    replace r139 : Rep K B136 (.ref p135) (enc (.tup [] : D)) := r139
    refine h_nil ?_
    refine h_newL w (ds := (([(.tup (a98.1.map enc) : D), (.tup (a98.1.map enc) : D), (enc (⟨1, 2, 3, 4, 5⟩ : (Tp5 Int Int Int Int Int))), (enc (⟨1, 2, 3, 4, 5, 6, 7⟩ : (Tp7 Int Int Int Int Int Int Int))), (enc ([1, 2, 3, 4, 5, 6] : List Int)), (enc ()), (enc ("" : Str)), (.tup [] : D)] : List D)).map enc) (K := K) (.cons r110 (.cons r119 (.cons r124 (.cons r129 (.cons r134 (.cons Rep.non (.cons (Rep.str _) (.cons r139 .nil)))))))) (fun p140 B141 H142 s143 r144 => ?_) (by show 8 ≤ sizeLine; decide)
    replace m_state := m_state.step s143 nm0
    replace m4 := m4.step s143 nm0
    replace st := st.go s143 go0
    replace w := s143.ok
    replace r144 : Rep K B141 (.ref p140) (enc ([(.tup (a98.1.map enc) : D), (.tup (a98.1.map enc) : D), (enc (⟨1, 2, 3, 4, 5⟩ : (Tp5 Int Int Int Int Int))), (enc (⟨1, 2, 3, 4, 5, 6, 7⟩ : (Tp7 Int Int Int Int Int Int Int))), (enc ([1, 2, 3, 4, 5, 6] : List Int)), (enc ()), (enc ("" : Str)), (.tup [] : D)] : List D)) := r144
    refine h_ret ?_
    refine h_op ?_
    refine h_var rfl ?_
    refine h_call ?_
    refine h_cons ?_
    refine h_var rfl ?_
    refine h_cons ?_
    refine h_c ?_
    refine h_nil ?_
    refine ⟨B141, p_state, a98.2, 8, w, rfl, m_state, (P.bind).mono (fun x145 P => ?_) (fun _ z => z)⟩
    refine fun v149 B146 H147 s148 m_state r150 => ?_
    replace m4 := m4.step s148 (nm1 ne7.symm)
    replace r144 := r144.mono s148.ex
    replace st := st.go s148 (go1 (.inl (by simp)))
    replace w := s148.ok
    cases r150
    obtain ⟨p151, xs152, hv, hs153, hr154⟩ := Rep.sq w r144
    cases hv
    obtain ⟨x155, hx156, P⟩ := P.ix
    obtain ⟨u157, hu, r158⟩ := RepL.atE hr154 hx156
    refine h_ixL hs153 hu ?_
    exact P.ok _ _ _ st m_state r158
theorem ok__law_no_index {f : Addr} {fd : FuncData}  (F : Fun K "_law_no_index" "_law_no_index" s__law_no_index f fd) {f__law_digit : Addr} {d__law_digit : FuncData} (g__law_digit : mg "_law_digit" = some (.ref f__law_digit)) (k__law_digit : PySem.W.keepIn K (.ref f__law_digit) = true) (b__law_digit : L2.Binds K d__law_digit ["_law_state", "_law_base"] []) (G__law_digit : FnOk Pr wo K mg base CX0 1 f__law_digit d__law_digit ["_law_state", "_law_base"] (sp__law_digit K)) {f__law_no_row : Addr} {d__law_no_row : FuncData} (g__law_no_row : mg "_law_no_row" = some (.ref f__law_no_row)) (k__law_no_row : PySem.W.keepIn K (.ref f__law_no_row) = true) (b__law_no_row : L2.Binds K d__law_no_row ["_law_state"] []) (G__law_no_row : FnOk Pr wo K mg base CX0 2 f__law_no_row d__law_no_row ["_law_state"] (sp__law_no_row K)) (bI_len : mg "len" = none) (bI_tuple : mg "tuple" = none) : FnOk Pr wo K mg base CX0 3 f fd ["_law_state", "_law_index_here"] (sp__law_no_index K) := by
  refine F.ok sc__law_no_index (fun vs H Q E h => ?_) (fun cdv A outer s H0 vs Q E hr h => ?_)
  · obtain ⟨_, _, _, _, _, _, rfl, _⟩ := h; rfl
  · obtain ⟨B0, p_state, a_state, v_index_here, a_index_here, w, rfl, m_state, r_index_here, P⟩ := h
    have w0 := w
    have hu := hu_of hr
    have hu64 := hu64_of hr
    have hu65 := hu65_of hr
    have hr1 : Room 1 _ := hr.mono (by decide)
    have hr2 : Room 2 _ := hr.mono (by decide)
    refine ⟨_, (pss_cons (ps_asg (pv 1) (pg_tupK (K := K) (n := 2) rfl rfl (pgs_cons (pg_name (i := 2) sc__law_no_index.nd rfl (by first | exact Or.inl rfl | exact Or.inr rfl)) (pgs_cons (pg_name (i := 3) sc__law_no_index.nd rfl (by first | exact Or.inl rfl | exact Or.inr rfl)) pgs_nil))))
      (pss_cons (ps_set (i := 4) sc__law_no_index.nd rfl (by first | exact Or.inl rfl | exact Or.inr rfl) (pe_call G__law_digit hr1 rfl g__law_digit k__law_digit b__law_digit .nil pass0 (pa_cons (pv 0) (pa_cons pe_int pa_nil))))
      (pss_cons (ps_if (pt_cmpR op_eq (pv 4) pe_int (nomark _)) (pss_one (ps_ret (pe_ix (r := rIxL K) ix_list (pe_lst (pa_cons pe_non (pa_cons (pe_lst (pa_cons (pv 2) (pa_cons (pv 3) pa_nil))) (pa_cons (pe_tup (pa_cons (pv 2) pa_nil)) (pa_cons (pe_tup (pa_cons (pv 2) (pa_cons (pv 3) (pa_cons pe_int pa_nil)))) (pa_cons (pe_tup pa_nil) (pa_cons pe_str (pa_cons pe_dnewK pa_nil)))))))) (pe_call G__law_digit hr1 rfl g__law_digit k__law_digit b__law_digit .nil pass0 (pa_cons (pv 0) (pa_cons pe_int pa_nil))) (fun _ _ => rfl)))) pss_nil)
      (pss_cons (ps_if (pt_cmpR op_eq (pv 4) pe_int (nomark _)) (pss_one (ps_ret (pe_tup (pa_cons (pe_ix (r := rIxL K) ix_list (pe_lst (pa_cons (pe_un un_neg pe_int) (pa_cons (pe_op op_add (pe_op op_pow pe_int pe_int) pe_int) (pa_cons pe_non (pa_cons (pe_cmpR op_eq pe_int pe_int (nomark _)) (pa_cons pe_str pa_nil)))))) (pe_call G__law_digit hr1 rfl g__law_digit k__law_digit b__law_digit .nil pass0 (pa_cons (pv 0) (pa_cons pe_int pa_nil))) (fun _ _ => rfl)) (pa_cons (pv 3) pa_nil))))) pss_nil)
      (pss_cons (ps_if (pt_cmpR op_eq (pv 4) pe_int (nomark _)) (pss_one (ps_ret (pe_tup (pa_cons (pv 2) (pa_cons (pe_ix (r := rIxL K) ix_list (pe_lst (pa_cons pe_non (pa_cons (pe_callTy (r := rTupY K) cr_tuple (by rfl) bI_tuple Y.boot_tuple (pa_cons (pv 3) pa_nil)) (pa_cons pe_dnewK (pa_cons pe_str (pa_cons (pe_op (r := rRepQ K) op_repQ (pe_lst (pa_cons (pe_tup (pa_cons pe_int (pa_cons pe_int (pa_cons pe_int (pa_cons pe_int (pa_cons pe_int (pa_cons pe_int pa_nil))))))) pa_nil)) pe_int) pa_nil)))))) (pe_call G__law_digit hr1 rfl g__law_digit k__law_digit b__law_digit .nil pass0 (pa_cons (pv 0) (pa_cons pe_int pa_nil))) (fun _ _ => rfl)) pa_nil))))) pss_nil)
      (pss_cons (ps_set (i := 5) sc__law_no_index.nd rfl (by first | exact Or.inl rfl | exact Or.inr rfl) (pe_call G__law_digit hr1 rfl g__law_digit k__law_digit b__law_digit .nil pass0 (pa_cons (pv 0) (pa_cons (pe_op op_add (pe_callB (r := rLenY K) cr_len (by rfl) bI_len PySem.boot_len (pa_cons (pv 3) pa_nil)) pe_int) pa_nil))))
      (pss_one (ps_ret (pe_tup (pa_cons (pv 2) (pa_cons (pe_op (r := rCatQ K) op_catQ (pe_op (r := rCatQ K) op_catQ (pe_slice (r := rSlQ K) sl_Q (pv 3) po_none (po_some (pv 5))) (pe_lst (pa_cons (pe_call G__law_no_row hr2 rfl g__law_no_row k__law_no_row b__law_no_row .nil pass0 (pa_cons (pv 0) pa_nil)) pa_nil))) (pe_slice (r := rSlQ K) sl_Q (pv 3) (po_some (pv 5)) po_none)) pa_nil))))))))))), ?_⟩
    unfold l_no_index at P
    have st := Stp.refl (W := [p_state]) w
    refine h_seq ?_
    refine h_asg ?_
    refine h_var rfl ?_
    obtain ⟨p1, xs2, rfl, hs3, hr4⟩ := Rep.st w (r_index_here.mono st.ex)
    obtain ⟨u5, u7, rfl, r6, r8⟩ := RepL.open2 hr4
    refine h_tupG hs3 rfl ?_
    refine h_gcons ?_
    refine h_gname ?_
    cases r6
    refine h_gcons ?_
    refine h_gname ?_
    refine h_gnil ?_
    refine h_nx ?_
    refine h_set ?_
    refine h_call ?_
    refine h_cons ?_
    refine h_var rfl ?_
    refine h_cons ?_
    refine h_c ?_
    refine h_nil ?_
    refine ⟨B0, p_state, a_state, 4, w, rfl, m_state, (P.bind).mono (fun x9 P => ?_) (fun _ z => z)⟩
    refine fun v13 B10 H11 s12 m_state r14 => ?_
    replace r8 := r8.mono s12.ex
    replace st := st.go s12 (go1 (.inl (by simp)))
    replace w := s12.ok
    cases r14
    refine h_seq <| h_if ?_
    refine h_test ?_
    refine h_op ?_
    refine h_var rfl ?_
    refine h_c ?_
    refine h_eqI ?_
    refine h_bl ?_
    refine h_ite (fun c1 => ?_) (fun c1 => ?_)
    · replace P := P.iteT c1
      refine h_ret ?_
      refine h_op ?_
      refine h_lst ?_
      refine h_cons ?_
      refine h_c ?_
      refine h_cons ?_
      refine h_lst ?_
      refine h_cons ?_
      refine h_var rfl ?_
      refine h_cons ?_
      refine h_var rfl ?_
      refine h_nil ?_
      refine h_newL w (ds := (([(enc (a_index_here.a : Int)), (enc a_index_here.b)] : List D)).map enc) (K := K) (.cons (Rep.int _) (.cons r8 .nil)) (fun p15 B16 H17 s18 r19 => ?_) (by show 2 ≤ sizeLine; decide)
      replace m_state := m_state.step s18 nm0
      replace r8 := r8.mono s18.ex
      replace st := st.go s18 go0
      replace w := s18.ok
      replace r19 : Rep K B16 (.ref p15) (enc ([(enc (a_index_here.a : Int)), (enc a_index_here.b)] : List D)) := r19
      refine h_cons ?_
      refine h_tup ?_
      refine h_cons ?_
      refine h_var rfl ?_
      refine h_nil ?_
      refine h_newT w (K := K) (.cons (Rep.int _) .nil) (fun p20 B21 H22 s23 r24 => ?_) (by show 1 ≤ sizeLine; decide)
      replace m_state := m_state.step s23 nm0
      replace r8 := r8.mono s23.ex
      replace r19 := r19.mono s23.ex
      replace st := st.go s23 go0
      replace w := s23.ok
      replace r24 : Rep K B21 (.ref p20) (enc (⟨a_index_here.a⟩ : (Tp1 Int))) := r24
      refine h_cons ?_
      refine h_tup ?_
      refine h_cons ?_
      refine h_var rfl ?_
      refine h_cons ?_
      refine h_var rfl ?_
      refine h_cons ?_
      refine h_c ?_
      refine h_nil ?_
      refine h_newT w (K := K) (.cons (Rep.int _) (.cons r8 (.cons (Rep.int _) .nil))) (fun p25 B26 H27 s28 r29 => ?_) (by show 3 ≤ sizeLine; decide)
      replace m_state := m_state.step s28 nm0
      replace r8 := r8.mono s28.ex
      replace r19 := r19.mono s28.ex
      replace r24 := r24.mono s28.ex
      replace st := st.go s28 go0
      replace w := s28.ok
      replace r29 : Rep K B26 (.ref p25) (enc (⟨a_index_here.a, a_index_here.b, 0⟩ : (Tp3 Int (List (Tp6 Int Int Int Int Int Int)) Int))) := r29
      refine h_cons ?_
      refine h_tup ?_
      refine h_nil ?_
      refine h_newT w (K := K) .nil (fun p30 B31 H32 s33 r34 => ?_) (by show 0 ≤ sizeLine; decide)
      replace m_state := m_state.step s33 nm0
      replace r8 := r8.mono s33.ex
      replace r19 := r19.mono s33.ex
      replace r24 := r24.mono s33.ex
      replace r29 := r29.mono s33.ex
      replace st := st.go s33 go0
      replace w := s33.ok
      replace r34 : Rep K B31 (.ref p30) (enc (.tup [] : D)) := r34
      refine h_cons ?_
      refine h_c ?_
      refine h_cons ?_
      refine h_dnew w (K := K) (fun p35 B36 H37 s38 r39 => ?_)
      replace m_state := m_state.step s38 nm0
      replace r8 := r8.mono s38.ex
      replace r19 := r19.mono s38.ex
      replace r24 := r24.mono s38.ex
      replace r29 := r29.mono s38.ex
      replace r34 := r34.mono s38.ex
      replace st := st.go s38 go0
      replace w := s38.ok
      refine h_nil ?_
      refine h_newL w (ds := (([(enc ()), (enc ([(enc (a_index_here.a : Int)), (enc a_index_here.b)] : List D)), (enc (⟨a_index_here.a⟩ : (Tp1 Int))), (enc (⟨a_index_here.a, a_index_here.b, 0⟩ : (Tp3 Int (List (Tp6 Int Int Int Int Int Int)) Int))), (.tup [] : D), (enc ("index" : Str)), (.dic [] : D)] : List D)).map enc) (K := K) (.cons Rep.non (.cons r19 (.cons r24 (.cons r29 (.cons r34 (.cons (Rep.str _) (.cons r39 .nil))))))) (fun p40 B41 H42 s43 r44 => ?_) (by show 7 ≤ sizeLine; decide)
      replace m_state := m_state.step s43 nm0
      replace r8 := r8.mono s43.ex
      replace st := st.go s43 go0
      replace w := s43.ok
      replace r44 : Rep K B41 (.ref p40) (enc ([(enc ()), (enc ([(enc (a_index_here.a : Int)), (enc a_index_here.b)] : List D)), (enc (⟨a_index_here.a⟩ : (Tp1 Int))), (enc (⟨a_index_here.a, a_index_here.b, 0⟩ : (Tp3 Int (List (Tp6 Int Int Int Int Int Int)) Int))), (.tup [] : D), (enc ("index" : Str)), (.dic [] : D)] : List D)) := r44
      refine h_call ?_
      refine h_cons ?_
      refine h_var rfl ?_
      refine h_cons ?_
      refine h_c ?_
      refine h_nil ?_
      refine ⟨B41, p_state, x9.2, 7, w, rfl, m_state, (P.bind).mono (fun x45 P => ?_) (fun _ z => z)⟩
      refine fun v49 B46 H47 s48 m_state r50 => ?_
      replace r8 := r8.mono s48.ex
      replace r44 := r44.mono s48.ex
      replace st := st.go s48 (go1 (.inl (by simp)))
      replace w := s48.ok
      cases r50
      obtain ⟨p51, xs52, hv, hs53, hr54⟩ := Rep.sq w r44
      cases hv
      obtain ⟨x55, hx56, P⟩ := P.ix
      obtain ⟨u57, hu, r58⟩ := RepL.atE hr54 hx56
      refine h_ixL hs53 hu ?_
      exact P.ok _ _ _ st m_state r58
    · replace P := P.iteF c1
      refine h_next ?_
      refine h_nx ?_
      refine h_seq <| h_if ?_
      refine h_test ?_
      refine h_op ?_
      refine h_var rfl ?_
      refine h_c ?_
      refine h_eqI ?_
      refine h_bl ?_
      refine h_ite (fun c1 => ?_) (fun c1 => ?_)
      · replace P := P.iteT c1
        refine h_ret ?_
        refine h_tup ?_
        refine h_cons ?_
        refine h_op ?_
        refine h_lst ?_
        refine h_cons ?_
        refine h_un ?_
        refine h_c ?_
        refine h_U ?_
        refine h_cons ?_
        refine h_op ?_
        refine h_op (h_c (h_c (h_pow (k := 1000000000) (by decide +kernel) (by decide +kernel) ?_)))
        refine h_c ?_
        refine h_I0 ?_
        refine h_cons ?_
        refine h_c ?_
        refine h_cons ?_
        refine h_op ?_
        refine h_c ?_
        refine h_c ?_
        refine h_eqI ?_
        refine h_cons ?_
        refine h_c ?_
        refine h_nil ?_
        refine h_newL w (ds := (([(enc ((-1) : Int)), (enc ((1000000000 + 1) : Int)), (enc ()), (enc (decide (1 = 1))), (enc ("1" : Str))] : List D)).map enc) (K := K) (.cons (Rep.int _) (.cons (Rep.int _) (.cons Rep.non (.cons (Rep.bl _) (.cons (Rep.str _) .nil))))) (fun p59 B60 H61 s62 r63 => ?_) (by show 5 ≤ sizeLine; decide)
        replace m_state := m_state.step s62 nm0
        replace r8 := r8.mono s62.ex
        replace st := st.go s62 go0
        replace w := s62.ok
        replace r63 : Rep K B60 (.ref p59) (enc ([(enc ((-1) : Int)), (enc ((1000000000 + 1) : Int)), (enc ()), (enc (decide (1 = 1))), (enc ("1" : Str))] : List D)) := r63
        refine h_call ?_
        refine h_cons ?_
        refine h_var rfl ?_
        refine h_cons ?_
        refine h_c ?_
        refine h_nil ?_
        refine ⟨B60, p_state, x9.2, 5, w, rfl, m_state, (P.bind).mono (fun x64 P => ?_) (fun _ z => z)⟩
        refine fun v68 B65 H66 s67 m_state r69 => ?_
        replace r8 := r8.mono s67.ex
        replace r63 := r63.mono s67.ex
        replace st := st.go s67 (go1 (.inl (by simp)))
        replace w := s67.ok
        cases r69
        obtain ⟨p70, xs71, hv, hs72, hr73⟩ := Rep.sq w r63
        cases hv
        obtain ⟨x74, hx75, P⟩ := P.ix
        obtain ⟨u76, hu, r77⟩ := RepL.atE hr73 hx75
        refine h_ixL hs72 hu ?_
        refine h_cons ?_
        refine h_var rfl ?_
        refine h_nil ?_
        refine h_newT w (K := K) (.cons r77 (.cons r8 .nil)) (fun p78 B79 H80 s81 r82 => ?_) (by show 2 ≤ sizeLine; decide)
        replace m_state := m_state.step s81 nm0
        replace r8 := r8.mono s81.ex
        replace st := st.go s81 go0
        replace w := s81.ok
        replace r82 : Rep K B79 (.ref p78) (enc (⟨x74, a_index_here.b⟩ : (Tp2 D (List (Tp6 Int Int Int Int Int Int))))) := r82
        exact P.ok _ _ _ st m_state r82
      · replace P := P.iteF c1
        refine h_next ?_
        refine h_nx ?_
        refine h_seq <| h_if ?_
        refine h_test ?_
        refine h_op ?_
        refine h_var rfl ?_
        refine h_c ?_
        refine h_eqI ?_
        refine h_bl ?_
        refine h_ite (fun c1 => ?_) (fun c1 => ?_)
        · replace P := P.iteT c1
          refine h_ret ?_
          refine h_tup ?_
          refine h_cons ?_
          refine h_var rfl ?_
          refine h_cons ?_
          refine h_op ?_
          refine h_lst ?_
          refine h_cons ?_
          refine h_c ?_
          refine h_cons ?_
          refine h_cb ?_
          refine h_cons ?_
          refine h_var rfl ?_
          refine h_nil ?_
          obtain ⟨p83, xs84, rfl, hs85, hr86⟩ := Rep.sq w r8
          refine h_tupL hs85 (h_nwT w (K := K) hr86 (fun p87 B88 H89 s90 r91 => ?_))
          replace m_state := m_state.step s90 nm0
          replace r8 := r8.mono s90.ex
          replace st := st.go s90 go0
          replace w := s90.ok
          refine h_cons ?_
          refine h_dnew w (K := K) (fun p92 B93 H94 s95 r96 => ?_)
          replace m_state := m_state.step s95 nm0
          replace r8 := r8.mono s95.ex
          replace r91 := r91.mono s95.ex
          replace st := st.go s95 go0
          replace w := s95.ok
          refine h_cons ?_
          refine h_c ?_
          refine h_cons ?_
          refine h_op ?_
          refine h_lst ?_
          refine h_cons ?_
          refine h_tup ?_
          refine h_cons ?_
          refine h_c ?_
          refine h_cons ?_
          refine h_c ?_
          refine h_cons ?_
          refine h_c ?_
          refine h_cons ?_
          refine h_c ?_
          refine h_cons ?_
          refine h_c ?_
          refine h_cons ?_
          refine h_c ?_
          refine h_nil ?_
          refine h_newT w (K := K) (.cons (Rep.int _) (.cons (Rep.int _) (.cons (Rep.int _) (.cons (Rep.int _) (.cons (Rep.int _) (.cons (Rep.int _) .nil)))))) (fun p97 B98 H99 s100 r101 => ?_) (by show 6 ≤ sizeLine; decide)
          replace m_state := m_state.step s100 nm0
          replace r8 := r8.mono s100.ex
          replace r91 := r91.mono s100.ex
          replace r96 := r96.mono s100.ex
          replace st := st.go s100 go0
          replace w := s100.ok
          replace r101 : Rep K B98 (.ref p97) (enc (⟨0, 0, 1, 0, 1, 0⟩ : (Tp6 Int Int Int Int Int Int))) := r101
          refine h_nil ?_
          refine h_newL w (ds := (([(⟨0, 0, 1, 0, 1, 0⟩ : (Tp6 Int Int Int Int Int Int))] : List (Tp6 Int Int Int Int Int Int))).map enc) (K := K) (.cons r101 .nil) (fun p102 B103 H104 s105 r106 => ?_) (by show 1 ≤ sizeLine; decide)
          replace m_state := m_state.step s105 nm0
          replace r8 := r8.mono s105.ex
          replace r91 := r91.mono s105.ex
          replace r96 := r96.mono s105.ex
          replace st := st.go s105 go0
          replace w := s105.ok
          replace r106 : Rep K B103 (.ref p102) (enc ([(⟨0, 0, 1, 0, 1, 0⟩ : (Tp6 Int Int Int Int Int Int))] : List (Tp6 Int Int Int Int Int Int))) := r106
          refine h_c ?_
          obtain ⟨p107, xs108, hv, hs109, hr110⟩ := Rep.sq w r106
          cases hv
          obtain ⟨gd, P⟩ := P.guard
          refine h_repQ hs109 (hr110.length.trans (List.length_map ..)) gd ?_
          refine h_nwL w (ds := ((timesL ([(⟨0, 0, 1, 0, 1, 0⟩ : (Tp6 Int Int Int Int Int Int))] : List (Tp6 Int Int Int Int Int Int)) 1601)).map enc) (K := K) (RepL.times hr110 1601) (fun p111 B112 H113 s114 r115 => ?_) 
          replace m_state := m_state.step s114 nm0
          replace r8 := r8.mono s114.ex
          replace r91 := r91.mono s114.ex
          replace r96 := r96.mono s114.ex
          replace st := st.go s114 go0
          replace w := s114.ok
          replace r115 : Rep K B112 (.ref p111) (enc (timesL ([(⟨0, 0, 1, 0, 1, 0⟩ : (Tp6 Int Int Int Int Int Int))] : List (Tp6 Int Int Int Int Int Int)) 1601)) := r115
          refine h_nil ?_
          refine h_newL w (ds := (([(enc ()), (.tup (a_index_here.b.map enc) : D), (.dic [] : D), (enc ("" : Str)), (enc (timesL ([(⟨0, 0, 1, 0, 1, 0⟩ : (Tp6 Int Int Int Int Int Int))] : List (Tp6 Int Int Int Int Int Int)) 1601))] : List D)).map enc) (K := K) (.cons Rep.non (.cons r91 (.cons r96 (.cons (Rep.str _) (.cons r115 .nil))))) (fun p116 B117 H118 s119 r120 => ?_) (by show 5 ≤ sizeLine; decide)
          replace m_state := m_state.step s119 nm0
          replace r8 := r8.mono s119.ex
          replace st := st.go s119 go0
          replace w := s119.ok
          replace r120 : Rep K B117 (.ref p116) (enc ([(enc ()), (.tup (a_index_here.b.map enc) : D), (.dic [] : D), (enc ("" : Str)), (enc (timesL ([(⟨0, 0, 1, 0, 1, 0⟩ : (Tp6 Int Int Int Int Int Int))] : List (Tp6 Int Int Int Int Int Int)) 1601))] : List D)) := r120
          refine h_call ?_
          refine h_cons ?_
          refine h_var rfl ?_
          refine h_cons ?_
          refine h_c ?_
          refine h_nil ?_
          refine ⟨B117, p_state, x9.2, 5, w, rfl, m_state, (P.bind).mono (fun x121 P => ?_) (fun _ z => z)⟩
          refine fun v125 B122 H123 s124 m_state r126 => ?_
          replace r8 := r8.mono s124.ex
          replace r120 := r120.mono s124.ex
          replace st := st.go s124 (go1 (.inl (by simp)))
          replace w := s124.ok
          cases r126
          obtain ⟨p127, xs128, hv, hs129, hr130⟩ := Rep.sq w r120
          cases hv
          obtain ⟨x131, hx132, P⟩ := P.ix
          obtain ⟨u133, hu, r134⟩ := RepL.atE hr130 hx132
          refine h_ixL hs129 hu ?_
          refine h_nil ?_
          refine h_newT w (K := K) (.cons (Rep.int _) (.cons r134 .nil)) (fun p135 B136 H137 s138 r139 => ?_) (by show 2 ≤ sizeLine; decide)
          replace m_state := m_state.step s138 nm0
          replace r8 := r8.mono s138.ex
          replace st := st.go s138 go0
          replace w := s138.ok
          replace r139 : Rep K B136 (.ref p135) (enc (⟨a_index_here.a, x131⟩ : (Tp2 Int D))) := r139
          exact P.ok _ _ _ st m_state r139
        · replace P := P.iteF c1
          refine h_next ?_
          refine h_nx ?_
          refine h_set ?_
          refine h_call ?_
          refine h_cons ?_
          refine h_var rfl ?_
          refine h_cons ?_
          refine h_op ?_
          refine h_cb ?_
          refine h_cons ?_
          refine h_var rfl ?_
          refine h_nil ?_
          obtain ⟨p140, xs141, rfl, hs142, hr143⟩ := Rep.sq w r8
          refine h_len hs142 hr143 ?_
          refine h_c ?_
          refine h_I0 ?_
          refine h_nil ?_
          refine ⟨B10, p_state, x9.2, ((a_index_here.b.length : Int) + 1), w, rfl, m_state, (P.bind).mono (fun x144 P => ?_) (fun _ z => z)⟩
          refine fun v148 B145 H146 s147 m_state r149 => ?_
          replace r8 := r8.mono s147.ex
          replace st := st.go s147 (go1 (.inl (by simp)))
          replace w := s147.ok
          cases r149
          refine h_ret ?_
          refine h_tup ?_
          refine h_cons ?_
          refine h_var rfl ?_
          refine h_cons ?_
          refine h_op ?_
          refine h_op ?_
          refine h_sl ?_
          refine h_var rfl ?_
          refine h_nopart ?_
          refine h_part ?_
          refine h_var rfl ?_
          refine h_isI ?_
          obtain ⟨p150, xs151, hv, hs152, hr153⟩ := Rep.sq w r8
          cases hv
          refine h_slQ hs152 ?_
          refine h_nwL w (ds := ((cutL a_index_here.b none (some x144.1))).map enc) (K := K) (hr153.cut none (some x144.1)) (fun p154 B155 H156 s157 r158 => ?_) 
          replace m_state := m_state.step s157 nm0
          replace r8 := r8.mono s157.ex
          replace st := st.go s157 go0
          replace w := s157.ok
          replace r158 : Rep K B155 (.ref p154) (enc (cutL a_index_here.b none (some x144.1))) := r158
          refine h_lst ?_
          refine h_cons ?_
          refine h_call ?_
          refine h_cons ?_
          refine h_var rfl ?_
          refine h_nil ?_
          refine ⟨B155, p_state, x144.2, w, rfl, m_state, (P.bind).mono (fun x159 P => ?_) (fun _ z => z)⟩
          refine fun v163 B160 H161 s162 m_state r164 => ?_
          replace r8 := r8.mono s162.ex
          replace r158 := r158.mono s162.ex
          replace st := st.go s162 (go1 (.inl (by simp)))
          replace w := s162.ok
          refine h_nil ?_
          refine h_newL w (ds := (([x159.1] : List D)).map enc) (K := K) (.cons r164 .nil) (fun p165 B166 H167 s168 r169 => ?_) (by show 1 ≤ sizeLine; decide)
          replace m_state := m_state.step s168 nm0
          replace r8 := r8.mono s168.ex
          replace r158 := r158.mono s168.ex
          replace st := st.go s168 go0
          replace w := s168.ok
          replace r169 : Rep K B166 (.ref p165) (enc ([x159.1] : List D)) := r169
          obtain ⟨p170, xs171, hv, hs172, hr173⟩ := Rep.sq w r158
          cases hv
          obtain ⟨p174, xs175, hv, hs176, hr177⟩ := Rep.sq w r169
          cases hv
          replace hr173 := hr173.toD
          obtain ⟨gd, P⟩ := P.guard
          refine h_cat hs172 hs176 (by have g := gd; simp only [hr173.length, hr177.length, List.length_map] at g ⊢; exact Nat.le_trans g (by decide)) ?_
          refine h_nwL w (ds := ((((cutL a_index_here.b none (some x144.1)).map enc : List D) ++ ([x159.1] : List D))).map enc) (K := K) (RepL.cat hr173 hr177) (fun p178 B179 H180 s181 r182 => ?_) 
          replace m_state := m_state.step s181 nm0
          replace r8 := r8.mono s181.ex
          replace st := st.go s181 go0
          replace w := s181.ok
          replace r182 : Rep K B179 (.ref p178) (enc (((cutL a_index_here.b none (some x144.1)).map enc : List D) ++ ([x159.1] : List D))) := r182
          refine h_sl ?_
          refine h_var rfl ?_
          refine h_part ?_
          refine h_var rfl ?_
          refine h_isI ?_
          refine h_nopart ?_
          obtain ⟨p183, xs184, hv, hs185, hr186⟩ := Rep.sq w r8
          cases hv
          refine h_slQ hs185 ?_
          refine h_nwL w (ds := ((cutL a_index_here.b (some x144.1) none)).map enc) (K := K) (hr186.cut (some x144.1) none) (fun p187 B188 H189 s190 r191 => ?_) 
          replace m_state := m_state.step s190 nm0
          replace r8 := r8.mono s190.ex
          replace r182 := r182.mono s190.ex
          replace st := st.go s190 go0
          replace w := s190.ok
          replace r191 : Rep K B188 (.ref p187) (enc (cutL a_index_here.b (some x144.1) none)) := r191
          obtain ⟨p192, xs193, hv, hs194, hr195⟩ := Rep.sq w r182
          cases hv
          obtain ⟨p196, xs197, hv, hs198, hr199⟩ := Rep.sq w r191
          cases hv
          replace hr199 := hr199.toD
          obtain ⟨gd, P⟩ := P.guard
          refine h_cat hs194 hs198 (by have g := gd; simp only [hr195.length, hr199.length, List.length_map] at g ⊢; exact Nat.le_trans g (by decide)) ?_
          refine h_nwL w (ds := (((((cutL a_index_here.b none (some x144.1)).map enc : List D) ++ ([x159.1] : List D)) ++ ((cutL a_index_here.b (some x144.1) none).map enc : List D))).map enc) (K := K) (RepL.cat hr195 hr199) (fun p200 B201 H202 s203 r204 => ?_) 
          replace m_state := m_state.step s203 nm0
          replace r8 := r8.mono s203.ex
          replace st := st.go s203 go0
          replace w := s203.ok
          replace r204 : Rep K B201 (.ref p200) (enc ((((cutL a_index_here.b none (some x144.1)).map enc : List D) ++ ([x159.1] : List D)) ++ ((cutL a_index_here.b (some x144.1) none).map enc : List D))) := r204
          refine h_nil ?_
          refine h_newT w (K := K) (.cons (Rep.int _) (.cons r204 .nil)) (fun p205 B206 H207 s208 r209 => ?_) (by show 2 ≤ sizeLine; decide)
          replace m_state := m_state.step s208 nm0
          replace r8 := r8.mono s208.ex
          replace st := st.go s208 go0
          replace w := s208.ok
          replace r209 : Rep K B206 (.ref p205) (enc (⟨a_index_here.a, ((((cutL a_index_here.b none (some x144.1)).map enc : List D) ++ ([x159.1] : List D)) ++ ((cutL a_index_here.b (some x144.1) none).map enc : List D))⟩ : (Tp2 Int (List D)))) := r209
          exact P.ok _ _ _ st m_state r209
theorem ok_law {f : Addr} {fd : FuncData}  (F : Fun K "law" "law" s_law f fd) {f__law_index : Addr} {d__law_index : FuncData} (g__law_index : mg "_law_index" = some (.ref f__law_index)) (k__law_index : PySem.W.keepIn K (.ref f__law_index) = true) (b__law_index : L2.Binds K d__law_index ["_law_state"] []) (G__law_index : FnOk Pr wo K mg base CX0 2 f__law_index d__law_index ["_law_state"] (sp__law_index K)) {f__law_all_figures : Addr} {d__law_all_figures : FuncData} (g__law_all_figures : mg "_law_all_figures" = some (.ref f__law_all_figures)) (k__law_all_figures : PySem.W.keepIn K (.ref f__law_all_figures) = true) (b__law_all_figures : L2.Binds K d__law_all_figures ["_law_numbers"] []) (G__law_all_figures : FnOk Pr wo K mg base CX0 2 f__law_all_figures d__law_all_figures ["_law_numbers"] (sp__law_all_figures K)) {f__law_cell_at : Addr} {d__law_cell_at : FuncData} (g__law_cell_at : mg "_law_cell_at" = some (.ref f__law_cell_at)) (k__law_cell_at : PySem.W.keepIn K (.ref f__law_cell_at) = true) (b__law_cell_at : L2.Binds K d__law_cell_at ["_law_script", "_law_k"] []) (G__law_cell_at : FnOk Pr wo K mg base CX0 1 f__law_cell_at d__law_cell_at ["_law_script", "_law_k"] (sp__law_cell_at K)) {f_read_index : Addr} {d_read_index : FuncData} (g_read_index : mg "read_index" = some (.ref f_read_index)) (k_read_index : PySem.W.keepIn K (.ref f_read_index) = true) (b_read_index : L2.Binds K d_read_index ["body"] []) (G_read_index : FnOk Pr wo K mg base (L2.CX Pr wo) 6 f_read_index d_read_index ["body"] (sp_read_index K mg)) {f__law_index_numbers : Addr} {d__law_index_numbers : FuncData} (g__law_index_numbers : mg "_law_index_numbers" = some (.ref f__law_index_numbers)) (k__law_index_numbers : PySem.W.keepIn K (.ref f__law_index_numbers) = true) (b__law_index_numbers : L2.Binds K d__law_index_numbers ["_law_index_here"] []) (G__law_index_numbers : FnOk Pr wo K mg base CX0 1 f__law_index_numbers d__law_index_numbers ["_law_index_here"] (sp__law_index_numbers K)) {f_index_body : Addr} {d_index_body : FuncData} (g_index_body : mg "index_body" = some (.ref f_index_body)) (k_index_body : PySem.W.keepIn K (.ref f_index_body) = true) (b_index_body : L2.Binds K d_index_body ["index"] []) (G_index_body : FnOk Pr wo K mg base (L2.CX Pr wo) 4 f_index_body d_index_body ["index"] (sp_index_body K mg)) {f__law_no_index : Addr} {d__law_no_index : FuncData} (g__law_no_index : mg "_law_no_index" = some (.ref f__law_no_index)) (k__law_no_index : PySem.W.keepIn K (.ref f__law_no_index) = true) (b__law_no_index : L2.Binds K d__law_no_index ["_law_state", "_law_index_here"] []) (G__law_no_index : FnOk Pr wo K mg base CX0 3 f__law_no_index d__law_no_index ["_law_state", "_law_index_here"] (sp__law_no_index K)) {f__law_digit : Addr} {d__law_digit : FuncData} (g__law_digit : mg "_law_digit" = some (.ref f__law_digit)) (k__law_digit : PySem.W.keepIn K (.ref f__law_digit) = true) (b__law_digit : L2.Binds K d__law_digit ["_law_state", "_law_base"] []) (G__law_digit : FnOk Pr wo K mg base CX0 1 f__law_digit d__law_digit ["_law_state", "_law_base"] (sp__law_digit K)) {f__law_refused__index_body : Addr} {d__law_refused__index_body : FuncData} (g__law_refused__index_body : mg "_law_refused" = some (.ref f__law_refused__index_body)) (k__law_refused__index_body : PySem.W.keepIn K (.ref f__law_refused__index_body) = true) (b__law_refused__index_body : L2.Binds K d__law_refused__index_body ["_law_ask", "_law_thing"] []) (G__law_refused__index_body : FnOk Pr wo K mg base CX0 5 f__law_refused__index_body d__law_refused__index_body ["_law_ask", "_law_thing"] (sp__law_refused__index_body K f_index_body)) {f__law_refused__read_index : Addr} {d__law_refused__read_index : FuncData} (g__law_refused__read_index : mg "_law_refused" = some (.ref f__law_refused__read_index)) (k__law_refused__read_index : PySem.W.keepIn K (.ref f__law_refused__read_index) = true) (b__law_refused__read_index : L2.Binds K d__law_refused__read_index ["_law_ask", "_law_thing"] []) (G__law_refused__read_index : FnOk Pr wo K mg base CX0 7 f__law_refused__read_index d__law_refused__read_index ["_law_ask", "_law_thing"] (sp__law_refused__read_index K f_read_index)) (bI_range : mg "range" = none) (bI_list : mg "list" = none) (bI_all : mg "all" = none) (bI_isinstance : mg "isinstance" = none) (bI_tuple : mg "tuple" = none) : FnOk Pr wo K mg base CX0 8 f fd ["_law_script"] (sp_law K) := by
  refine F.ok sc_law (fun vs H Q E h => ?_) (fun cdv A outer s H0 vs Q E hr h => ?_)
  · obtain ⟨_, _, _, _, rfl, _⟩ := h; rfl
  · obtain ⟨B0, v_script, a_script, w, rfl, r_script, P⟩ := h
    have w0 := w
    have hu := hu_of hr
    have hu64 := hu64_of hr
    have hu65 := hu65_of hr
    have hr1 : Room 1 _ := hr.mono (by decide)
    have hr2 : Room 2 _ := hr.mono (by decide)
    have hr3 : Room 3 _ := hr.mono (by decide)
    have hr4 : Room 4 _ := hr.mono (by decide)
    have hr5 : Room 5 _ := hr.mono (by decide)
    have hr6 : Room 6 _ := hr.mono (by decide)
    have hr7 : Room 7 _ := hr.mono (by decide)
    refine ⟨_, (pss_cons (ps_if (pt_cmpR op_eq (pe_op op_mod (pe_call G__law_cell_at hr1 rfl g__law_cell_at k__law_cell_at b__law_cell_at .nil pass0 (pa_cons (pv 0) (pa_cons pe_int pa_nil))) pe_int) pe_int (nomark _)) (pss_cons (ps_setLc (i := 1) (own := [("_law_k", 2)]) rfl sc_law.nd rfl rfl (sw_true rfl rfl rfl rfl) (pi_range1 (by rfl) bI_range (pa_cons pe_int pa_nil)) (blkOk_by (N := ["_law_script", "_law_rows", "_law_k", "_law_cell", "_law_state", "_law_seal", "_law_due", "_law_turn", "_law_handed", "_law_there", "_law_found", "_law_row"]) (sc := defScope s_law) (by decide +kernel)) (fun _ _ _ _ _ => (pg_name (i := 2) sc_law.nd rfl (by first | exact Or.inl rfl | exact Or.inr rfl))) (fun _ _ _ _ _ => pts_nil) (fun _ _ _ _ _ => (pe_tup (pa_cons (pe_op op_mod (pv 2) pe_int) (pa_cons (pe_op op_mod (pv 2) pe_int) (pa_cons (pe_op op_add pe_int (pe_op op_mod (pv 2) pe_int)) (pa_cons (pe_op op_mod (pv 2) pe_int) (pa_cons (pe_op op_add pe_int (pe_op op_mod (pv 2) pe_int)) (pa_cons (pe_op op_mod (pv 2) pe_int) pa_nil)))))))))
      (pss_one (ps_if (pt_cmpR (r := rNeD K) (op_neD hu64) (pe_call G_read_index hr6 rfl g_read_index k_read_index b_read_index .nil passL (pa_cons (pe_call G_index_body hr4 rfl g_index_body k_index_body b_index_body .nil passL (pa_cons (pe_tup (pa_cons pe_int (pa_cons (pv 1) pa_nil))) pa_nil)) pa_nil)) (pe_tup (pa_cons pe_int (pa_cons (pv 1) pa_nil))) (nomark _)) (pss_one (ps_ret pe_bl)) pss_nil))) pss_nil)
      (pss_cons (ps_for PassesOwn.never rfl (pi_list (pe_op (r := rCatQ K) op_catQ (pe_slice (r := rSlQ K) sl_Q (pv 0) po_none (po_some pe_int)) (pe_lst (pa_cons pe_int (pa_cons pe_int pa_nil))))) (pg_name (i := 3) sc_law.nd rfl (by first | exact Or.inl rfl | exact Or.inr rfl)) (pss_cons (ps_set (i := 4) sc_law.nd rfl (by first | exact Or.inl rfl | exact Or.inr rfl) (pe_lst (pa_cons (pv 3) pa_nil)))
      (pss_cons (ps_asg (pe_call G__law_index hr2 rfl g__law_index k__law_index b__law_index .nil pass0 (pa_cons (pv 4) pa_nil)) (pg_tupK (K := K) (n := 2) rfl rfl (pgs_cons (pg_name (i := 5) sc_law.nd rfl (by first | exact Or.inl rfl | exact Or.inr rfl)) (pgs_cons (pg_name (i := 1) sc_law.nd rfl (by first | exact Or.inl rfl | exact Or.inr rfl)) pgs_nil))))
      (pss_cons (ps_set (i := 6) sc_law.nd rfl (by first | exact Or.inl rfl | exact Or.inr rfl) (pe_call G__law_all_figures hr2 rfl g__law_all_figures k__law_all_figures b__law_all_figures .nil pass0 (pa_cons (pe_call G__law_index_numbers hr1 rfl g__law_index_numbers k__law_index_numbers b__law_index_numbers .nil pass0 (pa_cons (pe_tup (pa_cons (pv 5) (pa_cons (pv 1) pa_nil))) pa_nil)) pa_nil)))
      (pss_cons (ps_for PassesOwn.never rfl (pi_range1 (by rfl) bI_range (pa_cons pe_int pa_nil)) (pg_name (i := 7) sc_law.nd rfl (by first | exact Or.inl rfl | exact Or.inr rfl)) (pss_cons (ps_set (i := 8) sc_law.nd rfl (by first | exact Or.inl rfl | exact Or.inr rfl) (pe_tup (pa_cons (pv 5) (pa_cons (pe_callTy (r := rListY K) cr_list (by rfl) bI_list Y.boot_list (pa_cons (pv 1) pa_nil)) pa_nil))))
      (pss_cons (ps_set (i := 9) sc_law.nd rfl (by first | exact Or.inl rfl | exact Or.inr rfl) (pe_call G_index_body hr4 rfl g_index_body k_index_body b_index_body .nil passL (pa_cons (pv 8) pa_nil)))
      (pss_cons (ps_if (PW.pt (pw_or (pt_not (pt_val (pe_callB (r := rIsi K) call_isi (by rfl) bI_isinstance PyProof.Rows.boot_isinstance (pa_cons (pv 9) (pa_cons (pe_bltn (v := .ty "list") (by rfl) bI_list Y.boot_list rfl) pa_nil))))) (pw_or (pt_cmpR (r := rNeD K) (op_neD hu64) (pv 9) (pv 6) (nomark _)) (pw_or1 (pt_cmpR (r := rNeD K) (op_neD hu64) (pv 8) (pe_tup (pa_cons (pv 5) (pa_cons (pv 1) pa_nil))) (nomark _)))))) (pss_one (ps_ret pe_bl)) pss_nil)
      (pss_cons (ps_set (i := 10) sc_law.nd rfl (by first | exact Or.inl rfl | exact Or.inr rfl) (pe_call G_read_index hr6 rfl g_read_index k_read_index b_read_index .nil passL (pa_cons (pv 9) pa_nil)))
      (pss_cons (ps_if (PW.pt (pw_or (pt_cmpR (r := rNeD K) (op_neD hu64) (pv 10) (pe_tup (pa_cons (pv 5) (pa_cons (pv 1) pa_nil))) (nomark _)) (pw_or (pt_not (pt_val (pe_callB (r := rIsi K) call_isi (by rfl) bI_isinstance PyProof.Rows.boot_isinstance (pa_cons (pv 10) (pa_cons (pe_bltn (v := .ty "tuple") (by rfl) bI_tuple Y.boot_tuple rfl) pa_nil))))) (pw_or (pt_not (pt_val (pe_callB (r := rIsi K) call_isi (by rfl) bI_isinstance PyProof.Rows.boot_isinstance (pa_cons (pe_ix (r := rIxT K) ix_tup (pv 10) pe_int (fun _ _ => rfl)) (pa_cons (pe_bltn (v := .ty "list") (by rfl) bI_list Y.boot_list rfl) pa_nil))))) (pw_or1 (pt_cmpR (r := rNeD K) (op_neD hu64) (pv 9) (pv 6) (nomark _))))))) (pss_one (ps_ret pe_bl)) pss_nil)
      (pss_cons (ps_if (pt_not (pt_val (pe_callB (r := rAll K) (cr_all rfl) (by rfl) bI_all PyProof.Rows.boot_all (pa_cons (pe_lc (own := [("_law_row", 11)]) rfl sc_law.nd (pi_list (pe_ix (r := rIxT K) ix_tup (pv 10) pe_int (fun _ _ => rfl))) (blkOk_by (N := ["_law_script", "_law_rows", "_law_k", "_law_cell", "_law_state", "_law_seal", "_law_due", "_law_turn", "_law_handed", "_law_there", "_law_found", "_law_row"]) (sc := defScope s_law) (by decide +kernel)) (fun _ _ _ _ _ => (pg_name (i := 11) sc_law.nd rfl (by first | exact Or.inl rfl | exact Or.inr rfl))) (fun _ _ _ _ _ => pts_nil) (fun _ _ _ _ _ => (pe_callB (r := rIsi K) call_isi (by rfl) bI_isinstance PyProof.Rows.boot_isinstance (pa_cons (pv 11) (pa_cons (pe_bltn (v := .ty "tuple") (by rfl) bI_tuple Y.boot_tuple rfl) pa_nil))))) pa_nil)))) (pss_one (ps_ret pe_bl)) pss_nil)
      (pss_cons (ps_expr (pe_bm PySem.F.plainAttrs_list PySem.F.slot_list_append PySem.F.type_list_append mt_append (pe_ix (r := rIxT K) ix_tup (pv 10) pe_int (fun _ _ => rfl)) (pa_cons pe_non pa_nil)))
      (pss_cons (ps_expr (pe_bm PySem.F.plainAttrs_list PySem.F.slot_list_append PySem.F.type_list_append mt_append (pv 9) (pa_cons pe_int pa_nil)))
      (pss_cons (ps_if (PW.pt (pw_or (pt_not (pt_val (pe_call G__law_refused__read_index hr7 rfl g__law_refused__read_index k__law_refused__read_index b__law_refused__read_index .nil pass0 (pa_cons (pe_glob (v := .ref f_read_index) (by rfl) g_read_index rfl) (pa_cons (pv 9) pa_nil))))) (pw_or1 (pt_not (pt_val (pe_call G__law_refused__read_index hr7 rfl g__law_refused__read_index k__law_refused__read_index b__law_refused__read_index .nil pass0 (pa_cons (pe_glob (v := .ref f_read_index) (by rfl) g_read_index rfl) (pa_cons (pe_slice (r := rSlQ K) sl_Q (pv 6) po_none (po_some (pe_un un_neg pe_int))) pa_nil)))))))) (pss_one (ps_ret pe_bl)) pss_nil)
      (pss_one (ps_expr (pe_bm0 PySem.F.plainAttrs_list PySem.F.slot_list_clear PySem.F.type_list_clear mt_clear (pv 9))))))))))))))
      (pss_cons (ps_if (pt_not (pt_val (pe_call G__law_refused__index_body hr5 rfl g__law_refused__index_body k__law_refused__index_body b__law_refused__index_body .nil pass0 (pa_cons (pe_glob (v := .ref f_index_body) (by rfl) g_index_body rfl) (pa_cons (pe_call G__law_no_index hr3 rfl g__law_no_index k__law_no_index b__law_no_index .nil pass0 (pa_cons (pv 4) (pa_cons (pe_tup (pa_cons (pv 5) (pa_cons (pv 1) pa_nil))) pa_nil))) pa_nil))))) (pss_one (ps_ret pe_bl)) pss_nil)
      (pss_one (ps_if (pt_not (pt_val (pe_call G__law_refused__read_index hr7 rfl g__law_refused__read_index k__law_refused__read_index b__law_refused__read_index .nil pass0 (pa_cons (pe_glob (v := .ref f_read_index) (by rfl) g_read_index rfl) (pa_cons (pe_ix (r := rIxL K) ix_list (pe_lst (pa_cons pe_non (pa_cons pe_str (pa_cons (pe_callTy (r := rTupY K) cr_tuple (by rfl) bI_tuple Y.boot_tuple (pa_cons (pv 6) pa_nil)) (pa_cons pe_dnewK (pa_cons pe_int (pa_cons (pe_lst (pa_cons pe_int pa_nil)) (pa_cons (pe_lst (pa_cons pe_non pa_nil)) pa_nil)))))))) (pe_call G__law_digit hr1 rfl g__law_digit k__law_digit b__law_digit .nil pass0 (pa_cons (pv 4) (pa_cons pe_int pa_nil))) (fun _ _ => rfl)) pa_nil))))) (pss_one (ps_ret pe_bl)) pss_nil))))))))
      (pss_one (ps_ret pe_bl)))), ?_⟩
    unfold m_law at P
    have st := Stp.refl (W := []) w
    have wj2 := w
    have sj1 := Stp.refl (W := []) w
    refine h_joinF P (fun (a : Unit) σ' H' => ∃ (B' : Hp) (o__law_rows : Option V) (o__law_k : Option V), Stp [] B0 H0 B' H' ∧ σ' = [some (v_script), o__law_rows, o__law_k, none, none, none, none, none, none, none, none, none]) (fun N Tkr4 kk3 kr4 P => h_if ?_) ?_
    · skip
      refine h_test ?_
      refine h_op ?_
      refine h_op ?_
      refine h_call ?_
      refine h_cons ?_
      refine h_var rfl ?_
      refine h_cons ?_
      refine h_c ?_
      refine h_nil ?_
      refine ⟨B0, v_script, a_script, 8, w, rfl, ((r_script.step st).w sub0), (P.bind).mono (fun x5 P => ?_) (fun _ z => z)⟩
      refine fun v9 B6 H7 s8 r10 => ?_
      replace st := st.go s8 go0
      replace sj1 := sj1.go s8 go0
      replace w := s8.ok
      cases r10
      refine h_c ?_
      refine h_I (by decide +kernel) ?_
      refine h_c ?_
      refine h_eqI ?_
      refine h_bl ?_
      refine h_ite (fun c1 => ?_) (fun c1 => ?_)
      · replace P := P.iteT c1
        refine h_seq <| h_asg ?_
        refine h_lcR1E ?_
        refine h_cons ?_
        refine h_c ?_
        refine h_nil ?_
        have gz11 : -(2 ^ 62) ≤ (1600 : Int) := by decide
        refine h_lcR1 P (fun Dl (acc : List (Tp6 Int Int Int Int Int Int)) (a : Unit) H' => ∃ B', Stp [] B6 H7 B' H' ∧ H7 Dl = none ∧ Mu K B' H' Dl (acc.map enc)) (fun Dl hD => ⟨_, Stp.newM w hD, hD, Mu.new w hD .nil⟩) ?_ ?_ gz11
        · rintro Dl12 N13 T14 x15 acc18 a19 H20 ⟨B21, s22, hD23, m24⟩ hlox15 hhix15 hz25 kk26 kn27 P
          have wj29 := w
          have sj28 := s22
          have n30 := st.nn hD23
          have n31 := sj1.nn hD23
          replace st := st.go s22 go0
          replace sj1 := sj1.go s22 go0
          replace w := s22.ok
          refine h_gname ?_
          refine h_lcT rfl ?_
          refine h_tup ?_
          refine h_cons ?_
          refine h_op ?_
          refine h_var rfl ?_
          refine h_c ?_
          refine h_I (by decide +kernel) ?_
          refine h_cons ?_
          refine h_op ?_
          refine h_var rfl ?_
          refine h_c ?_
          refine h_I (by decide +kernel) ?_
          refine h_cons ?_
          refine h_op ?_
          refine h_c ?_
          refine h_op ?_
          refine h_var rfl ?_
          refine h_c ?_
          refine h_I (by decide +kernel) ?_
          refine h_I0 ?_
          refine h_cons ?_
          refine h_op ?_
          refine h_var rfl ?_
          refine h_c ?_
          refine h_I (by decide +kernel) ?_
          refine h_cons ?_
          refine h_op ?_
          refine h_c ?_
          refine h_op ?_
          refine h_var rfl ?_
          refine h_c ?_
          refine h_I (by decide +kernel) ?_
          refine h_I0 ?_
          refine h_cons ?_
          refine h_op ?_
          refine h_var rfl ?_
          refine h_c ?_
          refine h_I (by decide +kernel) ?_
          refine h_nil ?_
          refine h_newT w (K := K) (.cons (Rep.int _) (.cons (Rep.int _) (.cons (Rep.int _) (.cons (Rep.int _) (.cons (Rep.int _) (.cons (Rep.int _) .nil)))))) (fun p32 B33 H34 s35 r36 => ?_) (by show 6 ≤ sizeLine; decide)
          replace m24 := m24.step s35 nm0
          replace st := st.go s35 go0
          replace sj1 := sj1.go s35 go0
          replace sj28 := sj28.go s35 go0
          replace w := s35.ok
          replace r36 : Rep K B33 (.ref p32) (enc (⟨(x15 % 8), (x15 % 100), (1 + (x15 % 90)), (x15 % 91), (1 + (x15 % 92)), (x15 % 120)⟩ : (Tp6 Int Int Int Int Int Int))) := r36
          refine h_app (b := (⟨(x15 % 8), (x15 % 100), (1 + (x15 % 90)), (x15 % 91), (1 + (x15 % 92)), (x15 % 120)⟩ : (Tp6 Int Int Int Int Int Int))) w m24 r36 hz25 (fun H37 s38 m24 => ?_)
          replace st := st.go s38 (go1 (.inr n30))
          replace sj1 := sj1.go s38 (go1 (.inr n31))
          replace sj28 := sj28.go s38 (go1 (.inr hD23))
          replace w := s38.ok
          exact kk26 (⟨(x15 % 8), (x15 % 100), (1 + (x15 % 90)), (x15 % 91), (1 + (x15 % 92)), (x15 % 120)⟩ : (Tp6 Int Int Int Int Int Int)) () _ ⟨_, sj28, hD23, m24⟩ P.ok
        · rintro Dl12 acc18 a19 H20 ⟨B21, s22, hD23, m24⟩ P
          have n39 := st.nn hD23
          have n40 := sj1.nn hD23
          replace st := st.go s22 go0
          replace sj1 := sj1.go s22 go0
          replace w := s22.ok
          replace P := P.un2
          obtain ⟨B45, e41, k42, g43, r44⟩ := Mu.keep m24
          replace st := g43 _ _ _ st w0 n39
          replace sj1 := g43 _ _ _ sj1 wj2 n40
          replace w := st.ok
          replace r44 : Rep K B45 (.ref Dl12) (enc acc18) := r44
          refine h_gname ?_
          refine h_nx ?_
          refine h_if ?_
          refine h_test ?_
          refine h_op ?_
          refine h_call ?_
          refine h_cons ?_
          refine h_call ?_
          refine h_cons ?_
          refine h_tup ?_
          refine h_cons ?_
          refine h_c ?_
          refine h_cons ?_
          refine h_var rfl ?_
          refine h_nil ?_
          refine h_newT w (K := K) (.cons (Rep.int _) (.cons r44 .nil)) (fun p46 B47 H48 s49 r50 => ?_) (by show 2 ≤ sizeLine; decide)
          replace r44 := r44.mono s49.ex
          replace st := st.go s49 go0
          replace sj1 := sj1.go s49 go0
          replace w := s49.ok
          replace r50 : Rep K B47 (.ref p46) (enc (⟨7, acc18⟩ : (Tp2 Int (List (Tp6 Int Int Int Int Int Int))))) := r50
          refine h_nil ?_
          refine ⟨B47, (.ref p46), (enc (⟨7, acc18⟩ : (Tp2 Int (List (Tp6 Int Int Int Int Int Int))))), w, rfl, r50, (P.bind.noErr).mono (fun x51 P => ?_) (fun _ z => z.elim)⟩
          refine fun p57 B52 H53 s54 hn58 m59 => ?_
          have n61 := st.nn hn58
          have n62 := sj1.nn hn58
          replace r44 := r44.mono s54.ex
          replace r50 := r50.mono s54.ex
          replace st := st.go s54 go0
          replace sj1 := sj1.go s54 go0
          replace w := s54.ok
          obtain ⟨B67, e63, k64, g65, r66⟩ := Mu.keep m59
          replace st := g65 _ _ _ st w0 n61
          replace sj1 := g65 _ _ _ sj1 wj2 n62
          replace r44 := r44.mono e63
          replace w := st.ok
          replace r66 : Rep K B67 (.ref p57) (enc x51) := r66
          refine h_nil ?_
          have r44_s68 := r44
          have st_s68 := st
          have sj1_s68 := sj1
          have w_s68 := w
          have ex_s68 := Ex.refl B67
          have wj70 := w
          have sj69 := Stp.refl (W := []) w
          refine ⟨B67, (.ref p57), (enc x51), w, rfl, r66, (P.bind.noErr).mono (fun x71 P => ?_) (fun _ z => z.elim)⟩
          have nf77 := fun (p : Addr) (h : H53 p = none) => st.nn h
          refine fun v75 B72 H73 s74 rn78 => ?_
          have r76 := rn78.rep
          have rn78_h := rn78
          replace rn78 := rn78.ago nf77
          replace r44 := r44.mono s74.ex
          replace r66 := r66.mono s74.ex
          replace st := st.go s74 go0
          replace sj1 := sj1.go s74 go0
          replace sj69 := sj69.go s74 go0
          replace w := s74.ok
          refine h_tup ?_
          refine h_cons ?_
          refine h_c ?_
          refine h_cons ?_
          refine h_var rfl ?_
          refine h_nil ?_
          refine h_newT w (K := K) (.cons (Rep.int _) (.cons r44 .nil)) (fun p79 B80 H81 s82 r83 => ?_) (by show 2 ≤ sizeLine; decide)
          replace r44 := r44.mono s82.ex
          replace r76 := r76.mono s82.ex
          replace rn78 := rn78.mono s82.ex
          replace rn78_h := rn78_h.mono s82.ex
          replace st := st.go s82 go0
          replace sj1 := sj1.go s82 go0
          replace sj69 := sj69.go s82 go0
          replace w := s82.ok
          replace r83 : Rep K B80 (.ref p79) (enc (⟨7, acc18⟩ : (Tp2 Int (List (Tp6 Int Int Int Int Int Int))))) := r83
          obtain ⟨gd, P⟩ := P.guard
          refine h_neD (d := (enc x71)) (e := (enc (⟨7, acc18⟩ : (Tp2 Int (List (Tp6 Int Int Int Int Int Int)))))) w r76 r83 gd ?_
          refine h_bl ?_
          refine h_ite (fun c1 => ?_) (fun c1 => ?_)
          · replace P := P.iteT c1
            refine h_ret ?_
            refine h_c ?_
            exact (kr4 _ P.ok) _ _ _ st (Rep.bl _)
          · replace P := P.iteF c1
            refine h_next ?_
            refine h_nx ?_
            exact kk3 () _ _ ⟨_, _, _, sj1, rfl⟩ P.ok
      · replace P := P.iteF c1
        refine h_next ?_
        refine h_nx ?_
        exact kk3 () _ _ ⟨_, _, _, sj1, rfl⟩ P.ok
    rintro a84 _ H86 ⟨B85, o88, o89, s87, rfl⟩ P
    replace st := st.go s87 go0
    replace w := s87.ok
    refine h_seq ?_
    refine h_forE ?_
    refine h_op ?_
    refine h_sl ?_
    refine h_var rfl ?_
    refine h_nopart ?_
    refine h_part ?_
    refine h_c ?_
    refine h_isI ?_
    obtain ⟨p90, xs91, rfl, hs92, hr93⟩ := Bor.sq (r_script.step st)
    refine h_slQ hs92 ?_
    refine h_nwL w (ds := ((cutL a_script none (some 8))).map enc) (K := K) (hr93.cut none (some 8)) (fun p94 B95 H96 s97 r98 => ?_) 
    replace st := st.go s97 go0
    replace w := s97.ok
    replace r98 : Rep K B95 (.ref p94) (enc (cutL a_script none (some 8))) := r98
    refine h_lst ?_
    refine h_cons ?_
    refine h_c ?_
    refine h_cons ?_
    refine h_c ?_
    refine h_nil ?_
    refine h_newL w (ds := (([0, 1] : List Int)).map enc) (K := K) (.cons (Rep.int _) (.cons (Rep.int _) .nil)) (fun p99 B100 H101 s102 r103 => ?_) (by show 2 ≤ sizeLine; decide)
    replace r98 := r98.mono s102.ex
    replace st := st.go s102 go0
    replace w := s102.ok
    replace r103 : Rep K B100 (.ref p99) (enc ([0, 1] : List Int)) := r103
    obtain ⟨p104, xs105, hv, hs106, hr107⟩ := Rep.sq w r98
    cases hv
    obtain ⟨p108, xs109, hv, hs110, hr111⟩ := Rep.sq w r103
    cases hv
    obtain ⟨gd, P⟩ := P.guard
    refine h_cat hs106 hs110 (by have g := gd; simp only [hr107.length, hr111.length, List.length_map] at g ⊢; exact Nat.le_trans g (by decide)) ?_
    refine h_nwL w (ds := (((cutL a_script none (some 8)) ++ ([0, 1] : List Int))).map enc) (K := K) (RepL.cat hr107 hr111) (fun p112 B113 H114 s115 r116 => ?_) 
    replace st := st.go s115 go0
    replace w := s115.ok
    replace r116 : Rep K B113 (.ref p112) (enc ((cutL a_script none (some 8)) ++ ([0, 1] : List Int))) := r116
    obtain ⟨p117, xs118, hv, hb119, hr120⟩ := Rep.sqB r116
    cases hv
    have wj122 := w
    have sj121 := Stp.refl (W := []) w
    refine h_forL P (w.l hb119) hr120 (fun (a : Unit) σ' H' => ∃ (B' : Hp) (o__law_state : Option V) (o__law_seal : Option V) (o__law_rows : Option V) (o__law_due : Option V) (o__law_turn : Option V) (o__law_handed : Option V) (o__law_there : Option V) (o__law_found : Option V) (o__law_row : Option V) (o__law_cell : Option V), Stp [] B113 H114 B' H' ∧ σ' = [some ((.ref p90)), o__law_rows, o89, o__law_cell, o__law_state, o__law_seal, o__law_due, o__law_turn, o__law_handed, o__law_there, o__law_found, o__law_row]) ⟨_, _, _, _, _, _, _, _, _, _, _, sj121, rfl⟩ (fun _ _ _ j => ?_) ?_ ?_
    · obtain ⟨B132, o135, o136, o137, o138, o139, o140, o141, o142, o143, o144, s134, rfl⟩ := j
      exact s134.ok.l (s134.ex.l hb119)
    · rintro N123 T124 x129 v130 a128 _ H133 ⟨B132, o135, o136, o137, o138, o139, o140, o141, o142, o143, o144, s134, rfl⟩ r131 kk125 kr126 kb127 P
      replace st := st.go s134 go0
      replace w := s134.ok
      have sj121 := s134
      replace r131 := r131.mono sj121.ex
      cases r131
      refine h_gname ?_
      refine h_set ?_
      refine h_lst ?_
      refine h_cons ?_
      refine h_var rfl ?_
      refine h_nil ?_
      refine h_newM w (ds := (([x129] : List Int)).map enc) (K := K) (.cons (Rep.int _) .nil) (fun p145 H146 hn149 s147 m148 => ?_) (by show 1 ≤ sizeLine; decide)
      have n150 := st.nn hn149
      have n151 := sj121.nn hn149
      replace st := st.go s147 go0
      replace sj121 := sj121.go s147 go0
      replace w := s147.ok
      refine h_seq ?_
      refine h_asg ?_
      refine h_call ?_
      refine h_cons ?_
      refine h_var rfl ?_
      refine h_nil ?_
      refine ⟨B132, p145, ([x129] : List Int), w, rfl, m148, (P.bind).mono (fun x152 P => ?_) (fun _ z => z)⟩
      refine fun v156 B153 H154 s155 m148 r157 => ?_
      replace st := st.go s155 (go1 (.inr n150))
      replace sj121 := sj121.go s155 (go1 (.inr n151))
      replace w := s155.ok
      obtain ⟨p158, xs159, rfl, hs160, hr161⟩ := Rep.st w r157
      obtain ⟨u162, u164, rfl, r163, r165⟩ := RepL.open2 hr161
      refine h_tupG hs160 rfl ?_
      refine h_gcons ?_
      refine h_gname ?_
      cases r163
      refine h_gcons ?_
      refine h_gname ?_
      refine h_gnil ?_
      refine h_nx ?_
      refine h_set ?_
      refine h_call ?_
      refine h_cons ?_
      refine h_call ?_
      refine h_cons ?_
      refine h_tup ?_
      refine h_cons ?_
      refine h_var rfl ?_
      refine h_cons ?_
      refine h_var rfl ?_
      refine h_nil ?_
      refine h_newT w (K := K) (.cons (Rep.int _) (.cons r165 .nil)) (fun p166 B167 H168 s169 r170 => ?_) (by show 2 ≤ sizeLine; decide)
      replace m148 := m148.step s169 nm0
      replace r165 := r165.mono s169.ex
      replace st := st.go s169 go0
      replace sj121 := sj121.go s169 go0
      replace w := s169.ok
      replace r170 : Rep K B167 (.ref p166) (enc (⟨x152.1.a, x152.1.b⟩ : (Tp2 Int (List (Tp6 Int Int Int Int Int Int))))) := r170
      refine h_nil ?_
      refine ⟨B167, (.ref p166), (⟨x152.1.a, x152.1.b⟩ : (Tp2 Int (List (Tp6 Int Int Int Int Int Int)))), w, rfl, r170, (P.bind).mono (fun x171 P => ?_) (fun _ z => z)⟩
      refine fun v175 B172 H173 s174 r176 => ?_
      replace m148 := m148.step s174 nm0
      replace r165 := r165.mono s174.ex
      replace r170 := r170.mono s174.ex
      replace st := st.go s174 go0
      replace sj121 := sj121.go s174 go0
      replace w := s174.ok
      refine h_nil ?_
      refine ⟨B172, v175, x171, w, rfl, r176, (P.bind).mono (fun x177 P => ?_) (fun _ z => z)⟩
      refine fun v181 B178 H179 s180 r182 => ?_
      replace m148 := m148.step s180 nm0
      replace r165 := r165.mono s180.ex
      replace r176 := r176.mono s180.ex
      replace st := st.go s180 go0
      replace sj121 := sj121.go s180 go0
      replace w := s180.ok
      refine h_seq ?_
      refine h_rng1 ?_
      refine h_cons ?_
      refine h_c ?_
      refine h_nil ?_
      have gz183 : (-(2 ^ 62) ≤ (2 : Int) ∧ (2 : Int) < 2 ^ 62) := by decide
      have wj185 := w
      have sj184 := Stp.refl (W := []) w
      refine h_forR1 P gz183 (fun (a : Unit) σ' H' => ∃ (B' : Hp) (o__law_handed : Option V) (o__law_there : Option V) (o__law_found : Option V) (o__law_row : Option V) (o__law_turn : Option V), Stp [] B178 H179 B' H' ∧ σ' = [some ((.ref p90)), some (u164), o89, some (.int x129), some ((.ref p145)), some (.int x152.1.a), some (v181), o__law_turn, o__law_handed, o__law_there, o__law_found, o__law_row]) ⟨_, _, _, _, _, _, sj184, rfl⟩ ?_ ?_
      · rintro N186 T187 x192 a191 _ H196 ⟨B195, o198, o199, o200, o201, o202, s197, rfl⟩ hlox192 hhix192 kk188 kr189 kb190 P
        replace m148 := m148.step s197 nm0
        replace r165 := r165.mono s197.ex
        replace r182 := r182.mono s197.ex
        replace st := st.go s197 go0
        replace sj121 := sj121.go s197 go0
        replace w := s197.ok
        have sj184 := s197
        refine h_gname ?_
        refine h_set ?_
        refine h_tup ?_
        refine h_cons ?_
        refine h_var rfl ?_
        refine h_cons ?_
        refine h_cb ?_
        refine h_cons ?_
        refine h_var rfl ?_
        refine h_nil ?_
        obtain ⟨p203, xs204, rfl, hs205, hr206⟩ := Rep.sq w r165
        refine h_listL hs205 ?_
        refine h_nwL w (ds := (x152.1.b).map enc) (K := K) hr206 (fun p207 B208 H209 s210 r211 => ?_) 
        replace m148 := m148.step s210 nm0
        replace r165 := r165.mono s210.ex
        replace r182 := r182.mono s210.ex
        replace st := st.go s210 go0
        replace sj121 := sj121.go s210 go0
        replace sj184 := sj184.go s210 go0
        replace w := s210.ok
        replace r211 : Rep K B208 (.ref p207) (enc x152.1.b) := r211
        refine h_nil ?_
        refine h_newT w (K := K) (.cons (Rep.int _) (.cons r211 .nil)) (fun p212 B213 H214 s215 r216 => ?_) (by show 2 ≤ sizeLine; decide)
        replace m148 := m148.step s215 nm0
        replace r165 := r165.mono s215.ex
        replace r182 := r182.mono s215.ex
        replace st := st.go s215 go0
        replace sj121 := sj121.go s215 go0
        replace sj184 := sj184.go s215 go0
        replace w := s215.ok
        replace r216 : Rep K B213 (.ref p212) (enc (⟨x152.1.a, x152.1.b⟩ : (Tp2 Int (List (Tp6 Int Int Int Int Int Int))))) := r216
        refine h_set ?_
        refine h_call ?_
        refine h_cons ?_
        refine h_var rfl ?_
        refine h_nil ?_
        refine ⟨B213, (.ref p212), (enc (⟨x152.1.a, x152.1.b⟩ : (Tp2 Int (List (Tp6 Int Int Int Int Int Int))))), w, rfl, r216, (P.bind.noErr).mono (fun x217 P => ?_) (fun _ z => z.elim)⟩
        refine fun p223 B218 H219 s220 hn224 m225 => ?_
        have n227 := st.nn hn224
        have n228 := sj121.nn hn224
        have n229 := sj184.nn hn224
        have ne230 := Mu.ne m148 hn224
        replace m148 := m148.step s220 nm0
        replace r165 := r165.mono s220.ex
        replace r182 := r182.mono s220.ex
        replace r216 := r216.mono s220.ex
        replace st := st.go s220 go0
        replace sj121 := sj121.go s220 go0
        replace sj184 := sj184.go s220 go0
        replace w := s220.ok
        refine h_seq <| h_if ?_
        refine h_tor ?_
        refine h_tnot ?_
        refine h_tB ?_
        refine h_cb ?_
        refine h_cons ?_
        refine h_var rfl ?_
        refine h_cons ?_
        refine h_c ?_
        refine h_nil ?_
        obtain ⟨xs232, hv, hs233, hr234⟩ := Mu.sq m225
        refine isiL (t := "list") (l := x217.map enc) hs233 ?_
        refine h_bl ?_
        refine h_iteN (fun c1 => ?_) (fun c1 => ?_)
        · replace P := P.iteF c1
          refine h_iteT ?_
          refine h_ret ?_
          refine h_c ?_
          exact (kr126 _ (kr189 _ P.ok)) _ _ _ st (Rep.bl _)
        · replace P := P.iteT c1
          refine h_tor ?_
          refine h_test ?_
          refine h_op ?_
          refine h_var rfl ?_
          refine h_var rfl ?_
          obtain ⟨gd, P⟩ := P.guard
          obtain ⟨xs236, hv, hs237, hr238⟩ := Mu.sq m225
          refine h_neC (d := (enc x217)) (e := (enc x177)) (SqL.cp w hs237 hr238) (Rep.cp w r182) gd ?_
          refine h_bl ?_
          refine h_ite (fun c1 => ?_) (fun c1 => ?_)
          · replace P := P.iteT c1
            refine h_iteT ?_
            refine h_ret ?_
            refine h_c ?_
            exact (kr126 _ (kr189 _ P.ok)) _ _ _ st (Rep.bl _)
          · replace P := P.iteF c1
            refine h_test ?_
            refine h_op ?_
            refine h_var rfl ?_
            refine h_tup ?_
            refine h_cons ?_
            refine h_var rfl ?_
            refine h_cons ?_
            refine h_var rfl ?_
            refine h_nil ?_
            refine h_newT w (K := K) (.cons (Rep.int _) (.cons r165 .nil)) (fun p239 B240 H241 s242 r243 => ?_) (by show 2 ≤ sizeLine; decide)
            replace m148 := m148.step s242 nm0
            replace r165 := r165.mono s242.ex
            replace r182 := r182.mono s242.ex
            replace r216 := r216.mono s242.ex
            replace m225 := m225.step s242 nm0
            replace st := st.go s242 go0
            replace sj121 := sj121.go s242 go0
            replace sj184 := sj184.go s242 go0
            replace w := s242.ok
            replace r243 : Rep K B240 (.ref p239) (enc (⟨x152.1.a, x152.1.b⟩ : (Tp2 Int (List (Tp6 Int Int Int Int Int Int))))) := r243
            obtain ⟨gd, P⟩ := P.guard
            refine h_neD (d := (enc (⟨x152.1.a, x152.1.b⟩ : (Tp2 Int (List (Tp6 Int Int Int Int Int Int)))))) (e := (enc (⟨x152.1.a, x152.1.b⟩ : (Tp2 Int (List (Tp6 Int Int Int Int Int Int)))))) w r216 r243 gd ?_
            refine h_bl ?_
            refine h_ite (fun c1 => ?_) (fun c1 => ?_)
            · replace P := P.iteT c1
              refine h_ret ?_
              refine h_c ?_
              exact (kr126 _ (kr189 _ P.ok)) _ _ _ st (Rep.bl _)
            · replace P := P.iteF c1
              refine h_next ?_
              refine h_nx ?_
              refine h_set ?_
              refine h_call ?_
              refine h_cons ?_
              refine h_var rfl ?_
              refine h_nil ?_
              have m148_s244 := m148
              have r165_s244 := r165
              have r182_s244 := r182
              have r216_s244 := r216
              have m225_s244 := m225
              have st_s244 := st
              have sj121_s244 := sj121
              have sj184_s244 := sj184
              have w_s244 := w
              have ex_s244 := Ex.refl B240
              obtain ⟨B249, e245, k246, g247, r248⟩ := Mu.keep m225
              replace st := g247 _ _ _ st w0 n227
              replace sj121 := g247 _ _ _ sj121 wj122 n228
              replace sj184 := g247 _ _ _ sj184 wj185 n229
              replace m148 := m148.kp e245 k246 ne230
              replace r165 := r165.mono e245
              replace r182 := r182.mono e245
              replace r216 := r216.mono e245
              replace w := st.ok
              replace r248 : Rep K B249 (.ref p223) (enc x217) := r248
              replace ex_s244 := ex_s244.trans e245
              have wj251 := w
              have sj250 := Stp.refl (W := []) w
              refine ⟨B249, (.ref p223), (enc x217), w, rfl, r248, (P.bind.noErr).mono (fun x252 P => ?_) (fun _ z => z.elim)⟩
              have nf258 := fun (p : Addr) (h : H241 p = none) => st.nn h
              refine fun v256 B253 H254 s255 rn259 => ?_
              have r257 := rn259.rep
              have rn259_h := rn259
              replace rn259 := rn259.ago nf258
              replace m148 := m148.step s255 nm0
              replace r165 := r165.mono s255.ex
              replace r182 := r182.mono s255.ex
              replace r216 := r216.mono s255.ex
              replace r248 := r248.mono s255.ex
              replace st := st.go s255 go0
              replace sj121 := sj121.go s255 go0
              replace sj184 := sj184.go s255 go0
              replace sj250 := sj250.go s255 go0
              replace w := s255.ok
              refine h_seq <| h_if ?_
              refine h_tor ?_
              refine h_test ?_
              refine h_op ?_
              refine h_var rfl ?_
              refine h_tup ?_
              refine h_cons ?_
              refine h_var rfl ?_
              refine h_cons ?_
              refine h_var rfl ?_
              refine h_nil ?_
              refine h_newT w (K := K) (.cons (Rep.int _) (.cons r165 .nil)) (fun p260 B261 H262 s263 r264 => ?_) (by show 2 ≤ sizeLine; decide)
              replace m148 := m148.step s263 nm0
              replace r165 := r165.mono s263.ex
              replace r182 := r182.mono s263.ex
              replace r216 := r216.mono s263.ex
              replace r248 := r248.mono s263.ex
              replace r257 := r257.mono s263.ex
              replace rn259 := rn259.mono s263.ex
              replace rn259_h := rn259_h.mono s263.ex
              replace st := st.go s263 go0
              replace sj121 := sj121.go s263 go0
              replace sj184 := sj184.go s263 go0
              replace sj250 := sj250.go s263 go0
              replace w := s263.ok
              replace r264 : Rep K B261 (.ref p260) (enc (⟨x152.1.a, x152.1.b⟩ : (Tp2 Int (List (Tp6 Int Int Int Int Int Int))))) := r264
              obtain ⟨gd, P⟩ := P.guard
              refine h_neD (d := (enc x252)) (e := (enc (⟨x152.1.a, x152.1.b⟩ : (Tp2 Int (List (Tp6 Int Int Int Int Int Int)))))) w r257 r264 gd ?_
              refine h_bl ?_
              refine h_ite (fun c1 => ?_) (fun c1 => ?_)
              · replace P := P.iteT c1
                refine h_iteT ?_
                refine h_ret ?_
                refine h_c ?_
                exact (kr126 _ (kr189 _ P.ok)) _ _ _ st (Rep.bl _)
              · replace P := P.iteF c1
                refine h_tor ?_
                refine h_tnot ?_
                refine h_tB ?_
                refine h_cb ?_
                refine h_cons ?_
                refine h_var rfl ?_
                refine h_cons ?_
                refine h_c ?_
                refine h_nil ?_
                refine isi (t := "tuple") w r257 ?_
                refine h_bl ?_
                refine h_iteN (fun c1 => ?_) (fun c1 => ?_)
                · replace P := P.iteF c1
                  refine h_iteT ?_
                  refine h_ret ?_
                  refine h_c ?_
                  exact (kr126 _ (kr189 _ P.ok)) _ _ _ st (Rep.bl _)
                · replace P := P.iteT c1
                  refine h_tor ?_
                  refine h_tnot ?_
                  refine h_tB ?_
                  refine h_cb ?_
                  refine h_cons ?_
                  refine h_op ?_
                  refine h_var rfl ?_
                  refine h_c ?_
                  obtain ⟨p265, xs266, rfl, hs267, hr268⟩ := Rep.st w r257
                  obtain ⟨u269, hu, r270⟩ := RepL.at hr268 (i := 1) rfl
                  refine h_ixT hs267 hu ?_
                  refine h_cons ?_
                  refine h_c ?_
                  refine h_nil ?_
                  refine isi (t := "list") w r270 ?_
                  refine h_bl ?_
                  refine h_iteN (fun c1 => ?_) (fun c1 => ?_)
                  · replace P := P.iteF c1
                    refine h_iteT ?_
                    refine h_ret ?_
                    refine h_c ?_
                    exact (kr126 _ (kr189 _ P.ok)) _ _ _ st (Rep.bl _)
                  · replace P := P.iteT c1
                    refine h_test ?_
                    refine h_op ?_
                    refine h_var rfl ?_
                    refine h_var rfl ?_
                    obtain ⟨gd, P⟩ := P.guard
                    refine h_neD (d := (enc x217)) (e := (enc x177)) w r248 r182 gd ?_
                    refine h_bl ?_
                    refine h_ite (fun c1 => ?_) (fun c1 => ?_)
                    · replace P := P.iteT c1
                      refine h_ret ?_
                      refine h_c ?_
                      exact (kr126 _ (kr189 _ P.ok)) _ _ _ st (Rep.bl _)
                    · replace P := P.iteF c1
                      refine h_next ?_
                      refine h_nx ?_
                      refine h_seq <| h_if ?_
                      refine h_tnot ?_
                      refine h_tB ?_
                      refine h_cb ?_
                      refine h_cons ?_
                      refine h_lcE ?_
                      refine h_op ?_
                      refine h_var rfl ?_
                      refine h_c ?_
                      obtain ⟨p271, xs272, hv, hs273, hr274⟩ := Rep.st w r257
                      cases hv
                      obtain ⟨u275, hu, r276⟩ := RepL.at hr274 (i := 1) rfl
                      refine h_ixT hs273 hu ?_
                      obtain ⟨p277, xs278, rfl, hb279, hr280⟩ := Rep.sqB r276
                      refine h_lcL P (w.l hb279) hr280 (fun Dl (acc : List Bool) (a : Unit) H' => ∃ B', Stp [] B261 H262 B' H' ∧ H262 Dl = none ∧ Mu K B' H' Dl (acc.map enc) ∧ p145 ≠ Dl) (fun Dl hD => ⟨_, Stp.newM w hD, hD, Mu.new w hD .nil, Mu.ne m148 hD⟩) (fun _ _ _ _ j => ?_) ?_ ?_
                      · obtain ⟨B290, s291, hD292, m293, ne297⟩ := j
                        exact s291.ok.l (s291.ex.l hb279)
                      · rintro Dl281 N282 T283 x284 v285 acc287 a288 H289 ⟨B290, s291, hD292, m293, ne297⟩ r286 hz294 kk295 kn296 P
                        have wj299 := w
                        have sj298 := s291
                        have n300 := st.nn hD292
                        have n301 := sj121.nn hD292
                        have n302 := sj184.nn hD292
                        have n303 := sj250.nn hD292
                        replace m148 := m148.step s291 nm0
                        replace r165 := r165.mono s291.ex
                        replace r182 := r182.mono s291.ex
                        replace r216 := r216.mono s291.ex
                        replace r248 := r248.mono s291.ex
                        replace r257 := r257.mono s291.ex
                        replace rn259 := rn259.mono s291.ex
                        replace rn259_h := rn259_h.mono s291.ex
                        replace st := st.go s291 go0
                        replace sj121 := sj121.go s291 go0
                        replace sj184 := sj184.go s291 go0
                        replace sj250 := sj250.go s291 go0
                        replace w := s291.ok
                        replace r286 := r286.mono s291.ex
                        refine h_gname ?_
                        refine h_lcT rfl ?_
                        refine h_cb ?_
                        refine h_cons ?_
                        refine h_var rfl ?_
                        refine h_cons ?_
                        refine h_c ?_
                        refine h_nil ?_
                        refine isi (t := "tuple") w r286 ?_
                        refine h_app (b := (isA "tuple" x284)) w m293 (Rep.bl _) hz294 (fun H304 s305 m293 => ?_)
                        replace m148 := m148.step s305 (nm1 ne297)
                        replace r165 := r165.mono s305.ex
                        replace r182 := r182.mono s305.ex
                        replace r216 := r216.mono s305.ex
                        replace r248 := r248.mono s305.ex
                        replace r257 := r257.mono s305.ex
                        replace rn259 := rn259.mono s305.ex
                        replace rn259_h := rn259_h.mono s305.ex
                        replace r286 := r286.mono s305.ex
                        replace st := st.go s305 (go1 (.inr n300))
                        replace sj121 := sj121.go s305 (go1 (.inr n301))
                        replace sj184 := sj184.go s305 (go1 (.inr n302))
                        replace sj250 := sj250.go s305 (go1 (.inr n303))
                        replace sj298 := sj298.go s305 (go1 (.inr hD292))
                        replace w := s305.ok
                        exact kk295 (isA "tuple" x284) () _ ⟨_, sj298, hD292, m293, ne297⟩ P.ok
                      · rintro Dl281 acc287 a288 H289 ⟨B290, s291, hD292, m293, ne297⟩ P
                        have n306 := st.nn hD292
                        have n307 := sj121.nn hD292
                        have n308 := sj184.nn hD292
                        have n309 := sj250.nn hD292
                        replace m148 := m148.step s291 nm0
                        replace r165 := r165.mono s291.ex
                        replace r182 := r182.mono s291.ex
                        replace r216 := r216.mono s291.ex
                        replace r248 := r248.mono s291.ex
                        replace r257 := r257.mono s291.ex
                        replace rn259 := rn259.mono s291.ex
                        replace rn259_h := rn259_h.mono s291.ex
                        replace st := st.go s291 go0
                        replace sj121 := sj121.go s291 go0
                        replace sj184 := sj184.go s291 go0
                        replace sj250 := sj250.go s291 go0
                        replace w := s291.ok
                        replace P := P.un2
                        obtain ⟨B314, e310, k311, g312, r313⟩ := Mu.keep m293
                        replace st := g312 _ _ _ st w0 n306
                        replace sj121 := g312 _ _ _ sj121 wj122 n307
                        replace sj184 := g312 _ _ _ sj184 wj185 n308
                        replace sj250 := g312 _ _ _ sj250 wj251 n309
                        replace m148 := m148.kp e310 k311 ne297
                        replace r165 := r165.mono e310
                        replace r182 := r182.mono e310
                        replace r216 := r216.mono e310
                        replace r248 := r248.mono e310
                        replace r257 := r257.mono e310
                        replace rn259 := rn259.mono e310
                        replace rn259_h := rn259_h.mono e310
                        replace w := st.ok
                        replace r313 : Rep K B314 (.ref Dl281) (enc acc287) := r313
                        refine h_nil ?_
                        obtain ⟨p315, xs316, hv, hs317, hr318⟩ := Rep.sq w r313
                        cases hv
                        refine h_all hs317 hr318 ?_
                        refine h_bl ?_
                        refine h_iteN (fun c1 => ?_) (fun c1 => ?_)
                        · replace P := P.iteF c1
                          refine h_ret ?_
                          refine h_c ?_
                          exact (kr126 _ (kr189 _ P.ok)) _ _ _ st (Rep.bl _)
                        · replace P := P.iteT c1
                          refine h_next ?_
                          refine h_nx ?_
                          obtain ⟨p319, xs320, ev321, ht322, hr323⟩ := RepN.tupE (show RepN K _ _ (.ref p265) (.tup [enc x252.a, enc x252.b]) from rn259_h) (by simp [noLs, noL, Enc.enc])
                          cases ev321
                          obtain ⟨u324, hu325, rn326⟩ := RepNL.at hr323 (i := 1) rfl
                          obtain ⟨p327, xs328, ev329, hb330, hn331, hr332⟩ := RepN.lstE rn326
                          cases ev329
                          obtain ⟨gd, P⟩ := P.guard
                          have hl333 : xs328.length < 1000000 := by rw [hr332.length, List.length_map]; exact gd
                          refine h_seq ?_
                          refine h_drop ?_
                          refine h_bm ?_
                          refine h_op ?_
                          refine h_var rfl ?_
                          refine h_c (h_ixT (w.t ht322) hu325 ?_)
                          refine h_bmR (w _ _ hb330) ?_
                          refine h_cons (h_c (h_nil ?_))
                          refine h_appRv (w _ _ hb330) hl333 (sj250.back2 ex_s244) w_s244 hn331 fun H334 s335 e336 => ?_
                          replace st := st_s244.go s335 go0
                          replace sj121 := sj121_s244.go s335 go0
                          replace sj184 := sj184_s244.go s335 go0
                          replace w := s335.ok
                          have m148 := m148_s244.step s335 nm0
                          have r165 := r165_s244
                          have r182 := r182_s244
                          have r216 := r216_s244
                          have m225 := m225_s244.step s335 nm0
                          refine h_nx ?_
                          refine h_seq ?_
                          refine h_drop ?_
                          refine h_bm ?_
                          refine h_var rfl ?_
                          refine h_bmL m225 ?_
                          refine h_cons ?_
                          refine h_c ?_
                          refine h_nil ?_
                          obtain ⟨gd, P⟩ := P.guard
                          refine h_append (b := 0) w m225 (Rep.int _) gd (fun H337 s338 m225 => ?_)
                          replace m148 := m148.step s338 (nm1 ne230)
                          replace r165 := r165.mono s338.ex
                          replace r182 := r182.mono s338.ex
                          replace r216 := r216.mono s338.ex
                          replace st := st.go s338 (go1 (.inr n227))
                          replace sj121 := sj121.go s338 (go1 (.inr n228))
                          replace sj184 := sj184.go s338 (go1 (.inr n229))
                          replace w := s338.ok
                          refine h_nx ?_
                          refine h_seq <| h_if ?_
                          refine h_tor ?_
                          refine h_tnot ?_
                          refine h_tB ?_
                          refine h_call ?_
                          refine h_cons ?_
                          refine h_c ?_
                          refine h_cons ?_
                          refine h_var rfl ?_
                          refine h_nil ?_
                          have m148_s339 := m148
                          have r165_s339 := r165
                          have r182_s339 := r182
                          have r216_s339 := r216
                          have m225_s339 := m225
                          have st_s339 := st
                          have sj121_s339 := sj121
                          have sj184_s339 := sj184
                          have w_s339 := w
                          have ex_s339 := Ex.refl B240
                          obtain ⟨B344, e340, k341, g342, r343⟩ := Mu.keep m225
                          replace st := g342 _ _ _ st w0 n227
                          replace sj121 := g342 _ _ _ sj121 wj122 n228
                          replace sj184 := g342 _ _ _ sj184 wj185 n229
                          replace m148 := m148.kp e340 k341 ne230
                          replace r165 := r165.mono e340
                          replace r182 := r182.mono e340
                          replace r216 := r216.mono e340
                          replace w := st.ok
                          replace r343 : Rep K B344 (.ref p223) (enc (x217 ++ [0])) := r343
                          replace ex_s339 := ex_s339.trans e340
                          have wj346 := w
                          have sj345 := Stp.refl (W := []) w
                          refine ⟨B344, (.ref p223), (enc (x217 ++ [0])), w, rfl, r343, (P.bind).mono (fun x347 P => ?_) (fun _ z => z)⟩
                          refine fun v351 B348 H349 s350 r352 => ?_
                          replace m148 := m148.step s350 nm0
                          replace r165 := r165.mono s350.ex
                          replace r182 := r182.mono s350.ex
                          replace r216 := r216.mono s350.ex
                          replace r343 := r343.mono s350.ex
                          replace st := st.go s350 go0
                          replace sj121 := sj121.go s350 go0
                          replace sj184 := sj184.go s350 go0
                          replace sj345 := sj345.go s350 go0
                          replace w := s350.ok
                          cases r352
                          have sk353 := sj345.back2 ex_s339
                          replace st := st_s339.go sk353 go0
                          replace sj121 := sj121_s339.go sk353 go0
                          replace sj184 := sj184_s339.go sk353 go0
                          replace w := sk353.ok
                          have m148 := m148_s339.step sk353 nm0
                          have r165 := r165_s339
                          have r182 := r182_s339
                          have r216 := r216_s339
                          have m225 := m225_s339.step sk353 nm0
                          refine h_bl ?_
                          refine h_iteN (fun c1 => ?_) (fun c1 => ?_)
                          · replace P := P.iteF c1
                            refine h_iteT ?_
                            refine h_ret ?_
                            refine h_c ?_
                            exact (kr126 _ (kr189 _ P.ok)) _ _ _ st (Rep.bl _)
                          · replace P := P.iteT c1
                            refine h_tnot ?_
                            refine h_tB ?_
                            refine h_call ?_
                            refine h_cons ?_
                            refine h_c ?_
                            refine h_cons ?_
                            refine h_sl ?_
                            refine h_var rfl ?_
                            refine h_nopart ?_
                            refine h_part ?_
                            refine h_un ?_
                            refine h_c ?_
                            refine h_U ?_
                            refine h_isI ?_
                            obtain ⟨p354, xs355, rfl, hs356, hr357⟩ := Rep.sq w r182
                            refine h_slQ hs356 ?_
                            refine h_nwL w (ds := ((cutL x177 none (some (-1)))).map enc) (K := K) (hr357.cut none (some (-1))) (fun p358 B359 H360 s361 r362 => ?_) 
                            replace m148 := m148.step s361 nm0
                            replace r165 := r165.mono s361.ex
                            replace r182 := r182.mono s361.ex
                            replace r216 := r216.mono s361.ex
                            replace m225 := m225.step s361 nm0
                            replace st := st.go s361 go0
                            replace sj121 := sj121.go s361 go0
                            replace sj184 := sj184.go s361 go0
                            replace w := s361.ok
                            replace r362 : Rep K B359 (.ref p358) (enc (cutL x177 none (some (-1)))) := r362
                            refine h_nil ?_
                            refine ⟨B359, (.ref p358), (enc (cutL x177 none (some (-1)))), w, rfl, r362, (P.bind).mono (fun x363 P => ?_) (fun _ z => z)⟩
                            refine fun v367 B364 H365 s366 r368 => ?_
                            replace m148 := m148.step s366 nm0
                            replace r165 := r165.mono s366.ex
                            replace r182 := r182.mono s366.ex
                            replace r216 := r216.mono s366.ex
                            replace m225 := m225.step s366 nm0
                            replace r362 := r362.mono s366.ex
                            replace st := st.go s366 go0
                            replace sj121 := sj121.go s366 go0
                            replace sj184 := sj184.go s366 go0
                            replace w := s366.ok
                            cases r368
                            refine h_bl ?_
                            refine h_iteN (fun c1 => ?_) (fun c1 => ?_)
                            · replace P := P.iteF c1
                              refine h_ret ?_
                              refine h_c ?_
                              exact (kr126 _ (kr189 _ P.ok)) _ _ _ st (Rep.bl _)
                            · replace P := P.iteT c1
                              refine h_next ?_
                              refine h_nx ?_
                              refine h_drop ?_
                              refine h_bm0 ?_
                              refine h_var rfl ?_
                              refine h_bmL0 m225 ?_
                              refine h_clear w m225 (fun H369 s370 m225 => ?_)
                              replace m148 := m148.step s370 (nm1 ne230)
                              replace r165 := r165.mono s370.ex
                              replace r182 := r182.mono s370.ex
                              replace r216 := r216.mono s370.ex
                              replace st := st.go s370 (go1 (.inr n227))
                              replace sj121 := sj121.go s370 (go1 (.inr n228))
                              replace sj184 := sj184.go s370 (go1 (.inr n229))
                              replace w := s370.ok
                              refine h_nx ?_
                              exact kk188 () _ _ ⟨_, _, _, _, _, _, sj184, rfl⟩ P.ok
      · rintro a371 _ H373 ⟨B372, o375, o376, o377, o378, o379, s374, rfl⟩ P
        replace m148 := m148.step s374 nm0
        replace r165 := r165.mono s374.ex
        replace r182 := r182.mono s374.ex
        replace st := st.go s374 go0
        replace sj121 := sj121.go s374 go0
        replace w := s374.ok
        refine h_nx ?_
        refine h_seq <| h_if ?_
        refine h_tnot ?_
        refine h_tB ?_
        refine h_call ?_
        refine h_cons ?_
        refine h_c ?_
        refine h_cons ?_
        refine h_call ?_
        refine h_cons ?_
        refine h_var rfl ?_
        refine h_cons ?_
        refine h_tup ?_
        refine h_cons ?_
        refine h_var rfl ?_
        refine h_cons ?_
        refine h_var rfl ?_
        refine h_nil ?_
        refine h_newT w (K := K) (.cons (Rep.int _) (.cons r165 .nil)) (fun p380 B381 H382 s383 r384 => ?_) (by show 2 ≤ sizeLine; decide)
        replace m148 := m148.step s383 nm0
        replace r165 := r165.mono s383.ex
        replace r182 := r182.mono s383.ex
        replace st := st.go s383 go0
        replace sj121 := sj121.go s383 go0
        replace w := s383.ok
        replace r384 : Rep K B381 (.ref p380) (enc (⟨x152.1.a, x152.1.b⟩ : (Tp2 Int (List (Tp6 Int Int Int Int Int Int))))) := r384
        refine h_nil ?_
        refine ⟨B381, p145, x152.2, (.ref p380), (⟨x152.1.a, x152.1.b⟩ : (Tp2 Int (List (Tp6 Int Int Int Int Int Int)))), w, rfl, m148, r384, (P.bind).mono (fun x385 P => ?_) (fun _ z => z)⟩
        refine fun v389 B386 H387 s388 m148 r390 => ?_
        replace r165 := r165.mono s388.ex
        replace r182 := r182.mono s388.ex
        replace r384 := r384.mono s388.ex
        replace st := st.go s388 (go1 (.inr n150))
        replace sj121 := sj121.go s388 (go1 (.inr n151))
        replace w := s388.ok
        refine h_nil ?_
        refine ⟨B386, v389, x385.1, w, rfl, r390, (P.bind).mono (fun x391 P => ?_) (fun _ z => z)⟩
        refine fun v395 B392 H393 s394 r396 => ?_
        replace m148 := m148.step s394 nm0
        replace r165 := r165.mono s394.ex
        replace r182 := r182.mono s394.ex
        replace r390 := r390.mono s394.ex
        replace st := st.go s394 go0
        replace sj121 := sj121.go s394 go0
        replace w := s394.ok
        cases r396
        refine h_bl ?_
        refine h_iteN (fun c1 => ?_) (fun c1 => ?_)
        · replace P := P.iteF c1
          refine h_ret ?_
          refine h_c ?_
          exact (kr126 _ P.ok) _ _ _ st (Rep.bl _)
        · replace P := P.iteT c1
          refine h_next ?_
          refine h_nx ?_
          refine h_if ?_
          refine h_tnot ?_
          refine h_tB ?_
          refine h_call ?_
          refine h_cons ?_
          refine h_c ?_
          refine h_cons ?_
          refine h_op ?_
          refine h_lst ?_
          refine h_cons ?_
          refine h_c ?_
          refine h_cons ?_
          refine h_c ?_
          refine h_cons ?_
          refine h_cb ?_
          refine h_cons ?_
          refine h_var rfl ?_
          refine h_nil ?_
          obtain ⟨p397, xs398, rfl, hs399, hr400⟩ := Rep.sq w r182
          refine h_tupL hs399 (h_nwT w (K := K) hr400 (fun p401 B402 H403 s404 r405 => ?_))
          replace m148 := m148.step s404 nm0
          replace r165 := r165.mono s404.ex
          replace r182 := r182.mono s404.ex
          replace st := st.go s404 go0
          replace sj121 := sj121.go s404 go0
          replace w := s404.ok
          refine h_cons ?_
          refine h_dnew w (K := K) (fun p406 B407 H408 s409 r410 => ?_)
          replace m148 := m148.step s409 nm0
          replace r165 := r165.mono s409.ex
          replace r182 := r182.mono s409.ex
          replace r405 := r405.mono s409.ex
          replace st := st.go s409 go0
          replace sj121 := sj121.go s409 go0
          replace w := s409.ok
          refine h_cons ?_
          refine h_c ?_
          refine h_cons ?_
          refine h_lst ?_
          refine h_cons ?_
          refine h_c ?_
          refine h_nil ?_
          refine h_newL w (ds := (([256] : List Int)).map enc) (K := K) (.cons (Rep.int _) .nil) (fun p411 B412 H413 s414 r415 => ?_) (by show 1 ≤ sizeLine; decide)
          replace m148 := m148.step s414 nm0
          replace r165 := r165.mono s414.ex
          replace r182 := r182.mono s414.ex
          replace r405 := r405.mono s414.ex
          replace r410 := r410.mono s414.ex
          replace st := st.go s414 go0
          replace sj121 := sj121.go s414 go0
          replace w := s414.ok
          replace r415 : Rep K B412 (.ref p411) (enc ([256] : List Int)) := r415
          refine h_cons ?_
          refine h_lst ?_
          refine h_cons ?_
          refine h_c ?_
          refine h_nil ?_
          refine h_newL w (ds := (([()] : List Unit)).map enc) (K := K) (.cons Rep.non .nil) (fun p416 B417 H418 s419 r420 => ?_) (by show 1 ≤ sizeLine; decide)
          replace m148 := m148.step s419 nm0
          replace r165 := r165.mono s419.ex
          replace r182 := r182.mono s419.ex
          replace r405 := r405.mono s419.ex
          replace r410 := r410.mono s419.ex
          replace r415 := r415.mono s419.ex
          replace st := st.go s419 go0
          replace sj121 := sj121.go s419 go0
          replace w := s419.ok
          replace r420 : Rep K B417 (.ref p416) (enc ([()] : List Unit)) := r420
          refine h_nil ?_
          refine h_newL w (ds := (([(enc ()), (enc ("" : Str)), (.tup (x177.map enc) : D), (.dic [] : D), (enc (0 : Int)), (enc ([256] : List Int)), (enc ([()] : List Unit))] : List D)).map enc) (K := K) (.cons Rep.non (.cons (Rep.str _) (.cons r405 (.cons r410 (.cons (Rep.int _) (.cons r415 (.cons r420 .nil))))))) (fun p421 B422 H423 s424 r425 => ?_) (by show 7 ≤ sizeLine; decide)
          replace m148 := m148.step s424 nm0
          replace r165 := r165.mono s424.ex
          replace r182 := r182.mono s424.ex
          replace st := st.go s424 go0
          replace sj121 := sj121.go s424 go0
          replace w := s424.ok
          replace r425 : Rep K B422 (.ref p421) (enc ([(enc ()), (enc ("" : Str)), (.tup (x177.map enc) : D), (.dic [] : D), (enc (0 : Int)), (enc ([256] : List Int)), (enc ([()] : List Unit))] : List D)) := r425
          refine h_call ?_
          refine h_cons ?_
          refine h_var rfl ?_
          refine h_cons ?_
          refine h_c ?_
          refine h_nil ?_
          refine ⟨B422, p145, x385.2, 7, w, rfl, m148, (P.bind).mono (fun x426 P => ?_) (fun _ z => z)⟩
          refine fun v430 B427 H428 s429 m148 r431 => ?_
          replace r165 := r165.mono s429.ex
          replace r182 := r182.mono s429.ex
          replace r425 := r425.mono s429.ex
          replace st := st.go s429 (go1 (.inr n150))
          replace sj121 := sj121.go s429 (go1 (.inr n151))
          replace w := s429.ok
          cases r431
          obtain ⟨p432, xs433, hv, hs434, hr435⟩ := Rep.sq w r425
          cases hv
          obtain ⟨x436, hx437, P⟩ := P.ix
          obtain ⟨u438, hu, r439⟩ := RepL.atE hr435 hx437
          refine h_ixL hs434 hu ?_
          refine h_nil ?_
          refine ⟨B427, u438, x436, w, rfl, r439, (P.bind).mono (fun x440 P => ?_) (fun _ z => z)⟩
          refine fun v444 B441 H442 s443 r445 => ?_
          replace m148 := m148.step s443 nm0
          replace r165 := r165.mono s443.ex
          replace r182 := r182.mono s443.ex
          replace r439 := r439.mono s443.ex
          replace st := st.go s443 go0
          replace sj121 := sj121.go s443 go0
          replace w := s443.ok
          cases r445
          refine h_bl ?_
          refine h_iteN (fun c1 => ?_) (fun c1 => ?_)
          · replace P := P.iteF c1
            refine h_ret ?_
            refine h_c ?_
            exact (kr126 _ P.ok) _ _ _ st (Rep.bl _)
          · replace P := P.iteT c1
            refine h_next ?_
            refine h_nx ?_
            exact kk125 () _ _ ⟨_, _, _, _, _, _, _, _, _, _, _, sj121, rfl⟩ P.ok
    · rintro a446 _ H448 ⟨B447, o450, o451, o452, o453, o454, o455, o456, o457, o458, o459, s449, rfl⟩ P
      replace st := st.go s449 go0
      replace w := s449.ok
      refine h_nx ?_
      refine h_ret ?_
      refine h_c ?_
      exact P.ok _ _ _ st (Rep.bl _)
end
end A
set_option Elab.async false
set_option linter.all false
set_option maxRecDepth 100000
set_option maxHeartbeats 2000000
namespace Y
open PySem PySem.Spec PyProof.Rows L2
open Enc (enc)
/-! # plain mathematics over mirrors -/
/-- m gives a value, and φ of it -/
def Ok {α : Type} (m : Res α) (φ : α → Prop) : Prop := ∃ a, m = .ok a ∧ φ a
section
variable {α β : Type} {m : Res α} {φ φ' : α → Prop} {k : α → Res β} {ψ : β → Prop} {a : α} {c : Bool} {i : Int} {l : List α}
theorem Ok.pure (h : φ a) : Ok (.ok a) φ := ⟨a, rfl, h⟩
theorem Ok.bind (h : Ok m φ) (hk : ∀ a, φ a → Ok (k a) ψ) : Ok (m.bind k) ψ := by
  obtain ⟨a, e, p⟩ := h
  rw [e]
  exact hk a p
theorem Ok.bindE (e : m = .ok a) (h : Ok (k a) ψ) : Ok (m.bind k) ψ := by rw [e]; exact h
theorem Ok.mono (h : Ok m φ) (hk : ∀ a, φ a → φ' a) : Ok m φ' := by
  obtain ⟨a, e, p⟩ := h
  exact ⟨a, e, hk a p⟩
theorem Ok.ite {m m' : Res α} (h1 : c = true → Ok m φ) (h2 : c = false → Ok m' φ) : Ok (if c = true then m else m') φ := by
  cases c
  · rw [if_neg Bool.false_ne_true]; exact h2 rfl
  · rw [if_pos rfl]; exact h1 rfl
theorem Ok.iteT {m m' : Res α} (hc : c = true) (h : Ok m φ) : Ok (if c = true then m else m') φ := by
  rw [if_pos hc]; exact h
theorem Ok.iteF {m m' : Res α} (hc : c = false) (h : Ok m' φ) : Ok (if c = true then m else m') φ := by
  rw [hc, if_neg Bool.false_ne_true]; exact h
theorem Ok.guard {p : Prop} [Decidable p] (hp : p) (h : Ok m φ) : Ok (guardR p m) φ := by
  unfold guardR; rw [if_pos hp]; exact h
theorem Ok.lt {d : α} (h : Ok (k d) ψ) : Ok (Y.lt d k) ψ := h
theorem Ok.noErr (h : Ok m φ) : Ok m.noErr φ := by
  obtain ⟨a, e, p⟩ := h
  exact ⟨a, by rw [e]; rfl, p⟩
theorem atI_in (h0 : 0 ≤ i) (h1 : i < (l.length : Int)) : ∃ x, atI l i = some x ∧ l[i.toNat]? = some x ∧ x ∈ l := by
  have h2 : i.toNat < l.length := by omega
  have e : ixN l.length i = some i.toNat := by unfold ixN; rw [if_pos h0, if_pos h1]
  refine ⟨l[i.toNat], ?_, List.getElem?_eq_getElem h2, List.getElem_mem h2⟩
  unfold atI
  rw [e]
  exact List.getElem?_eq_getElem h2
theorem Ok.ix (h0 : 0 ≤ i) (h1 : i < (l.length : Int)) (h : ∀ x, x ∈ l → l[i.toNat]? = some x → Ok (k x) ψ) : Ok ((ixR l i).bind k) ψ := by
  obtain ⟨x, e, e2, m⟩ := atI_in h0 h1
  unfold ixR
  rw [e]
  exact h x m e2
theorem Ok.ixs {x : α} (e : ixR l i = .ok x) (h : Ok (k x) ψ) : Ok ((ixR l i).bind k) ψ := by rw [e]; exact h
/-- an item of a written list -/
theorem Ok.ixm (h0 : 0 ≤ i) (h1 : i < (l.length : Int)) (h : ∀ x, x ∈ l → Ok (k x) ψ) : Ok ((ixR l i).bind k) ψ := Ok.ix h0 h1 fun x m _ => h x m
/-- a loop that keeps I and ends by itself -/
theorem Ok.for {S R : Type} {f : α → S → Res (Fl S R)} (I : S → Prop) (hf : ∀ x s, x ∈ l → I s → Ok (f x s) fun r => ∃ s', r = .nx s' ∧ I s') : ∀ {s : S}, I s → Ok (forR l s f) fun r => ∃ s', r = .nx s' ∧ I s' := by
  induction l with
  | nil => intro s h; exact ⟨_, rfl, s, rfl, h⟩
  | cons x xs ih =>
    intro s h
    refine Ok.bind (hf x s List.mem_cons_self h) ?_
    rintro r ⟨s', rfl, h'⟩
    exact ih (fun y s m h => hf y s (List.mem_cons_of_mem _ m) h) h'
/-- a comprehension: each turn gives a good thing and keeps I -/
theorem Ok.compL {S R : Type} {f : α → S → Res (Option R × S)} (I : S → Prop) (G : R → Prop) (hf : ∀ x s, x ∈ l → I s → Ok (f x s) fun r => I r.2 ∧ ∀ b, r.1 = some b → G b) : ∀ {s : S}, I s → Ok (compL l s f) fun r => I r.2 ∧ ∀ b ∈ r.1, G b := by
  induction l with
  | nil => intro s h; exact ⟨_, rfl, h, fun _ m => nomatch m⟩
  | cons x xs ih =>
    intro s h
    refine Ok.bind (hf x s List.mem_cons_self h) ?_
    rintro ⟨o, s'⟩ ⟨h', g⟩
    refine Ok.bind (ih (fun y s m h => hf y s (List.mem_cons_of_mem _ m) h) h') ?_
    rintro ⟨bs, s2⟩ ⟨h2, g2⟩
    refine ⟨_, rfl, h2, fun b m => ?_⟩
    cases o with
    | none => exact g2 b m
    | some b0 =>
      rcases List.mem_cons.mp m with e | m
      · rw [e]; exact g b0 rfl
      · exact g2 b m
theorem Ok.comp {S R : Type} {f : α → S → Res (Option R × S)} {s : S} (hl : l.length ≤ 1000000) (I : S → Prop) (G : R → Prop) (hf : ∀ x s, x ∈ l → I s → Ok (f x s) fun r => I r.2 ∧ ∀ b, r.1 = some b → G b) (h : I s) : Ok (compR l s f) fun r => I r.2 ∧ ∀ b ∈ r.1, G b := Ok.guard hl (Ok.compL I G hf h)
/-- .. and no more things than turns -/
theorem Ok.compLen {S R : Type} {f : α → S → Res (Option R × S)} {s : S} (hl : l.length ≤ 1000000) (I : S → Prop) (G : R → Prop) (hf : ∀ x s, x ∈ l → I s → Ok (f x s) fun r => I r.2 ∧ ∀ b, r.1 = some b → G b) (h : I s) : Ok (compR l s f) fun r => I r.2 ∧ (∀ b ∈ r.1, G b) ∧ r.1.length ≤ l.length := by
  refine Ok.guard hl ?_
  clear hl
  induction l generalizing s with
  | nil => exact ⟨_, rfl, h, (fun _ m => nomatch m), Nat.le_refl _⟩
  | cons x xs ih =>
    refine Ok.bind (hf x s List.mem_cons_self h) ?_
    rintro ⟨o, s'⟩ ⟨h', g⟩
    refine Ok.bind (ih (fun y s m h => hf y s (List.mem_cons_of_mem _ m) h) h') ?_
    rintro ⟨bs, s2⟩ ⟨h2, g2, g3⟩
    refine ⟨_, rfl, h2, fun b m => ?_, ?_⟩
    · cases o with
      | none => exact g2 b m
      | some b0 =>
        rcases List.mem_cons.mp m with e | m
        · rw [e]; exact g b0 rfl
        · exact g2 b m
    · cases o with
      | none => exact Nat.le_succ_of_le g3
      | some b0 => exact Nat.succ_le_succ g3
end
theorem log2_small {n b : Nat} (h : n < 2 ^ b) (h0 : 0 < b) : n.log2 < b := PySem.Flt.log2_lt_of h0 h
theorem mulW {i j : Int} {a b : Nat} (ha : i.natAbs < 2 ^ a) (hb : j.natAbs < 2 ^ b) (h0 : 0 < a := by decide) (h1 : 0 < b := by decide) (h : a + b ≤ 1000000 := by decide) : CMulW i j := wide_mul ha hb h0 h1 h
theorem divW {i j : Int} {b : Nat} (h : 0 < j) (hb : j.natAbs < 2 ^ b) (h0 : 0 < b := by decide) (h9 : b ≤ 9000 := by decide) : CDivW i j := wide_div h hb h0 h9
theorem cutL_mem {α : Type} {l : List α} {lo hi : Option Int} {x : α} (h : x ∈ cutL l lo hi) : x ∈ l := List.mem_of_mem_drop (List.mem_of_mem_take h)
theorem cutL_len {α : Type} {l : List α} {lo hi : Option Int} : (cutL l lo hi).length ≤ l.length := by
  unfold cutL
  rw [List.length_take, List.length_drop]
  omega
mutual
theorem eqv_refl : ∀ d : D, flatD d = true → PyData.eqv (pyD d) (pyD d) = true
  | .non, _ => rfl
  | .bl b, _ => by show (b == b) = true; simp
  | .int i, _ => by show (i == i) = true; simp
  | .str x, _ => by show (x == x) = true; simp
  | .lst ds, h => eqvs_refl ds h
  | .tup ds, h => eqvs_refl ds h
  | .dic _, h => nomatch h
  | .obj _ _, h => nomatch h
theorem eqvs_refl : ∀ ds : List D, flatDs ds = true → PyData.eqvAll (pyDs ds) (pyDs ds) = true
  | [], _ => rfl
  | d :: ds, h => by
    have h' : (flatD d && flatDs ds) = true := h
    rw [Bool.and_eq_true] at h'
    show (PyData.eqv (pyD d) (pyD d) && PyData.eqvAll (pyDs ds) (pyDs ds)) = true
    rw [eqv_refl d h'.1, eqvs_refl ds h'.2]
    rfl
end
theorem eqD_refl {d : D} (h : flatD d = true) : eqD d d = true := eqv_refl d h
theorem flat_ints : ∀ l : List Int, flatDs (l.map enc) = true
  | [] => rfl
  | i :: l => by show (flatD (.int i) && flatDs (l.map enc)) = true; rw [flat_ints l]; rfl

mutual
/-- data that may be compared: no dict, texts plain, not deep -/
def eqOk (n : Nat) : D → Bool
  | .lst ds => match n with | 0 => false | n + 1 => eqOks n ds
  | .tup ds => match n with | 0 => false | n + 1 => eqOks n ds
  | .dic _ => false
  | .obj _ _ => false
  | .str x => PyData.strOk x
  | _ => true
def eqOks (n : Nat) : List D → Bool
  | [] => true
  | d :: ds => eqOk n d && eqOks n ds
end
mutual
theorem eqOk_flat : ∀ (d : D) (n : Nat), eqOk n d = true → flatD d = true ∧ (pyD d).canLay0 = true ∧ (pyD d).depth ≤ n
  | .non, _, _ => ⟨rfl, rfl, Nat.zero_le _⟩
  | .bl _, _, _ => ⟨rfl, rfl, Nat.zero_le _⟩
  | .int _, _, _ => ⟨rfl, rfl, Nat.zero_le _⟩
  | .str _, _, h => ⟨rfl, h, Nat.zero_le _⟩
  | .lst ds, n + 1, h => let ⟨a, b, c⟩ := eqOks_flat ds n h; ⟨a, b, Nat.succ_le_succ c⟩
  | .tup ds, n + 1, h => let ⟨a, b, c⟩ := eqOks_flat ds n h; ⟨a, b, Nat.succ_le_succ c⟩
  | .lst _, 0, h => nomatch h
  | .tup _, 0, h => nomatch h
  | .dic _, _, h => nomatch h
  | .obj _ _, _, h => nomatch h
theorem eqOks_flat : ∀ (ds : List D) (n : Nat), eqOks n ds = true → flatDs ds = true ∧ PyData.canLayAll0 (pyDs ds) = true ∧ PyData.depthAll (pyDs ds) ≤ n
  | [], _, _ => ⟨rfl, rfl, Nat.zero_le _⟩
  | d :: ds, n, h => by
    have h' : (eqOk n d && eqOks n ds) = true := h
    rw [Bool.and_eq_true] at h'
    obtain ⟨a, b, c⟩ := eqOk_flat d n h'.1
    obtain ⟨a', b', c'⟩ := eqOks_flat ds n h'.2
    refine ⟨?_, ?_, ?_⟩
    · show (flatD d && flatDs ds) = true; rw [a, a']; rfl
    · show (PyData.canLay0 (pyD d) && PyData.canLayAll0 (pyDs ds)) = true; rw [b, b']; rfl
    · exact Nat.max_le.mpr ⟨c, c'⟩
end
theorem okEq_of {d e : D} (h : eqOk 20 d = true) (h' : eqOk 20 e = true) : okEq d e := by
  obtain ⟨a, b, c⟩ := eqOk_flat d 20 h
  obtain ⟨a', b', c'⟩ := eqOk_flat e 20 h'
  refine ⟨a, a', ?_, ?_⟩
  · unfold SeqAt.shaped; rw [b, decide_eq_true (Nat.le_trans c (by decide))]; rfl
  · unfold SeqAt.shaped; rw [b', decide_eq_true (Nat.le_trans c' (by decide))]; rfl
theorem eqOk_ints : ∀ (l : List Int) (n : Nat), eqOks n (l.map enc) = true
  | [], _ => rfl
  | i :: l, n => by show (eqOk n (.int i) && eqOks n (l.map enc)) = true; rw [eqOk_ints l n]; rfl
/-- a comprehension without a state whose turns give values -/
theorem compL_map {α β : Type} {f : α → Unit → Res (Option β × Unit)} {g : α → β} : ∀ {l : List α}, (∀ x ∈ l, f x () = .ok (some (g x), ())) → compL l () f = .ok (l.map g, ())
  | [], _ => rfl
  | x :: xs, h => by
    unfold compL
    rw [h x List.mem_cons_self]
    show ((compL xs () f).bind fun q => .ok (g x :: q.1, q.2)) = _
    rw [compL_map fun y m => h y (List.mem_cons_of_mem _ m)]
    rfl
theorem compR_map {α β : Type} {f : α → Unit → Res (Option β × Unit)} {g : α → β} {l : List α} (hl : l.length ≤ 1000000) (h : ∀ x ∈ l, f x () = .ok (some (g x), ())) : compR l () f = .ok (l.map g, ()) := by
  unfold compR guardR
  rw [if_pos hl, compL_map h]
def smallD (d : D) : Prop := match d with | .lst ds => ds.length ≤ 1000000 | _ => True
end Y

set_option Elab.async false
set_option linter.all false
set_option maxRecDepth 100000
set_option maxHeartbeats 2000000
namespace A
open PySem PySem.Spec PyProof.Rows L2 Y
open Y.Enc (enc)
/-- a state of draws -/
def Gd (st : List Int) : Prop := st.length = 1 ∨ st.length = 3
theorem setR_in {α : Type} {l : List α} {i : Int} {x : α} (h0 : 0 ≤ i) (h1 : i < (l.length : Int)) : setR l i x = .ok (l.set i.toNat x) := by
  unfold setR
  have e : ixN l.length i = some i.toNat := by unfold ixN; rw [if_pos h0, if_pos h1]
  rw [e]
theorem Ok.set {α β : Type} {l : List α} {i : Int} {x : α} {k : List α → Res β} {ψ : β → Prop} (h0 : 0 ≤ i) (h1 : i < (l.length : Int)) (h : ∀ l', l'.length = l.length → Ok (k l') ψ) : Ok ((setR l i x).bind k) ψ := by
  rw [setR_in h0 h1]
  exact h _ (List.length_set ..)
theorem digit_ok {st : List Int} {b : Int} (h : Gd st) (hb : 0 < b) (hb2 : b.natAbs < 2 ^ 4000) : Ok (l_digit st b) fun r => (0 ≤ r.1 ∧ r.1 < b) ∧ r.2.length = 3 := by
  unfold l_digit
  refine Ok.bind (φ := fun l => l.length = 3) (Ok.ite (fun c => ?_) (fun c => ?_)) fun l hl => ?_
  · have e : st.length = 1 := by have := of_decide_eq_true c; omega
    refine Ok.ix (by decide) (by omega) fun x _ _ => Ok.guard (by simp [e]) (Ok.pure (by simp [e]))
  · have e : ¬ (st.length : Int) = 1 := of_decide_eq_false c
    refine Ok.pure ?_
    rcases h with h | h
    · exact absurd (by omega) e
    · exact h
  refine Ok.ix (by decide) (by omega) fun x _ _ => Ok.ite (fun c => ?_) (fun c => ?_)
  · refine Ok.ix (by decide) (by omega) fun y _ _ => Ok.guard hb (Ok.lt (Ok.ix (by decide) (by omega) fun z _ _ => Ok.guard (divW hb hb2) (Ok.set (by decide) (by omega) fun l' e => Ok.pure ⟨⟨Int.emod_nonneg _ (Int.ne_of_gt hb), Int.emod_lt_of_pos _ hb⟩, e.trans hl⟩)))
  · refine Ok.ix (by decide) (by omega) fun y _ _ => Ok.set (by decide) (by omega) fun l' e => Ok.ix (by decide) (by omega) fun z _ _ => Ok.ix (by decide) (by omega) fun u _ _ => Ok.lt ?_
    generalize hn : (((z + 7919 * u) + 1) * 48271) % 2147483647 = n
    have hn1 : 0 ≤ n ∧ n < 2147483647 := by subst hn; exact ⟨Int.emod_nonneg _ (by decide), Int.emod_lt_of_pos _ (by decide)⟩
    refine Ok.guard (mulW (a := 32) (b := 32) (by omega) (by omega)) (Ok.lt ?_)
    generalize hm : (n * (n / 1009 + 69621)) % 2147483647 = m
    have hm1 : 0 ≤ m ∧ m < 2147483647 := by subst hm; exact ⟨Int.emod_nonneg _ (by decide), Int.emod_lt_of_pos _ (by decide)⟩
    refine Ok.guard (mulW (a := 32) (b := 32) (by omega) (by omega)) (Ok.guard hb (Ok.pure ⟨⟨Int.emod_nonneg _ (Int.ne_of_gt hb), Int.emod_lt_of_pos _ hb⟩, e.trans hl⟩))
theorem gd3 {st : List Int} (h : st.length = 3) : Gd st := .inr h
/-- a draw -/
theorem dg {β : Type} {st : List Int} {b : Int} {k : Int × List Int → Res β} {ψ : β → Prop} (h : Gd st) (hb : 0 < b) (hb2 : b.natAbs < 2 ^ 4000) (hk : ∀ x s, 0 ≤ x → x < b → s.length = 3 → Ok (k (x, s)) ψ) : Ok ((l_digit st b).bind k) ψ :=
  Ok.bind (digit_ok h hb hb2) fun r p => hk r.1 r.2 p.1.1 p.1.2 p.2
theorem big {b : Int} {n : Nat} (h : b.natAbs < 2 ^ n) (hn : n ≤ 4000) : b.natAbs < 2 ^ 4000 := Nat.lt_of_lt_of_le h (Nat.pow_le_pow_right (by decide) hn)
theorem bg {b : Int} (h : b.natAbs < 18446744073709551616) : b.natAbs < 2 ^ 4000 := big (n := 64) h (by decide)
end A

set_option Elab.async false
set_option linter.all false
set_option maxRecDepth 100000
set_option maxHeartbeats 2000000
namespace A
open PySem PySem.Spec PyProof.Rows L2 Y
open Y.Enc (enc)
/-! # rows of bytes -/
def isBytes (d : D) : Bool := match d with
  | .lst ds => ds.all fun d => isWhole d 0 255
  | _ => false
theorem is_bytes_ok {d : D} (h : smallD d) : m_is_bytes d = .ok (isBytes d) := by
  unfold m_is_bytes
  cases d with
  | lst ds =>
    rw [if_pos (show isA "list" (.lst ds) = true from (by decide +kernel : isS "list" "list" = true))]
    show ((compR ds () _).bind _) = _
    rw [compR_map (g := fun x => isWhole x 0 255) h (fun x _ => rfl)]
    show Res.ok ((ds.map fun x => isWhole x 0 255).all id) = _
    rw [List.all_map]
    rfl
  | _ => rfl
theorem small_ints {l : List Int} (h : l.length ≤ 1000000) : smallD (enc l) := by show (l.map enc).length ≤ 1000000; rw [List.length_map]; exact h
def Byt (i : Int) : Prop := 0 ≤ i ∧ i ≤ 255
theorem bytes_ints {l : List Int} (h : ∀ b ∈ l, Byt b) : isBytes (enc l) = true := by
  show (l.map enc).all (fun d => isWhole d 0 255) = true
  rw [List.all_map, List.all_eq_true]
  intro b m
  obtain ⟨h0, h1⟩ := h b m
  show (decide (0 ≤ b) && decide (b ≤ 255)) = true
  rw [decide_eq_true h0, decide_eq_true h1]; rfl
theorem bytes_three {a b : List Int} {x : D} (ha : ∀ i ∈ a, Byt i) (hb : ∀ i ∈ b, Byt i) : isBytes (enc (((a.map enc : List D) ++ ([x] : List D)) ++ (b.map enc : List D))) = isWhole x 0 255 := by
  have e1 : ∀ {l : List Int}, (∀ i ∈ l, Byt i) → (l.map enc : List D).all (fun d => isWhole d 0 255) = true := fun {l} h => bytes_ints h
  show (List.map (fun d : D => d) (((a.map enc : List D) ++ [x]) ++ (b.map enc : List D))).all (fun d => isWhole d 0 255) = _
  rw [List.map_id', List.all_append, List.all_append, e1 ha, e1 hb]
  simp
theorem eqOk_row (l : List Int) : eqOk 20 (enc l) = true := eqOk_ints l 19
theorem ok_rows (l m : List Int) : okEq (enc l) (enc m) := okEq_of (eqOk_row l) (eqOk_row m)
theorem eqs_int : ∀ (l m : List Int), PyData.eqvAll (pyDs (l.map enc)) (pyDs (m.map enc)) = decide (l = m)
  | [], [] => rfl
  | [], _ :: _ => rfl
  | _ :: _, [] => rfl
  | x :: l, y :: m => by
    show (decide (x = y) && PyData.eqvAll (pyDs (l.map enc)) (pyDs (m.map enc))) = _
    rw [eqs_int l m, ← Bool.decide_and]
    exact decide_eq_decide.mpr ⟨fun h => by rw [h.1, h.2], fun h => by cases h; exact ⟨rfl, rfl⟩⟩
/-- rows are compared thing by thing -/
theorem eq_rows (l m : List Int) : eqD (enc l) (enc m) = decide (l = m) := eqs_int l m
theorem eq_row (l : List Int) : eqD (enc l) (enc l) = true := by rw [eq_rows]; simp
theorem rngI_len' (n : Int) : (rngI 0 n).length = n.toNat := by unfold rngI; simp
/-- the check of a row -/
def sumB (l : List Int) (n : Int) : Int := l.foldl (fun n b => (n * 257 + b) % 65521) n
theorem sumB_app (l m : List Int) (n : Int) : sumB (l ++ m) n = sumB m (sumB l n) := List.foldl_append
theorem byt_cut {l : List Int} {lo hi : Option Int} (h : ∀ b ∈ l, Byt b) : ∀ b ∈ cutL l lo hi, Byt b := fun b m => h b (cutL_mem m)
theorem byt_app {l m : List Int} (h : ∀ b ∈ l, Byt b) (h' : ∀ b ∈ m, Byt b) : ∀ b ∈ l ++ m, Byt b := fun b q => (List.mem_append.mp q).elim (h b) (h' b)
end A

set_option Elab.async false
set_option linter.all false
set_option maxRecDepth 100000
set_option maxHeartbeats 2000000
namespace A
open PySem PySem.Spec PyProof.Rows L2 Y
open Y.Enc (enc)
/-! # stuffed rows -/
def stL : Int → List Int → List Int
  | _, [] => []
  | n, b :: l => if (if b = 0 then n + 1 else 0) = 2 then b :: 2 :: stL 0 l else b :: stL (if b = 0 then n + 1 else 0) l
theorem st_two {n b : Int} {l : List Int} (h : (if b = 0 then n + 1 else 0) = 2) : stL n (b :: l) = b :: 2 :: stL 0 l := if_pos h
theorem st_one {n b : Int} {l : List Int} (h : (if b = 0 then n + 1 else 0) ≠ 2) : stL n (b :: l) = b :: stL (if b = 0 then n + 1 else 0) l := if_neg h
theorem nx01 {n b : Int} (h : n = 0 ∨ n = 1) (c : (if b = 0 then n + 1 else 0) ≠ 2) : (if b = 0 then n + 1 else 0) = 0 ∨ (if b = 0 then n + 1 else 0) = 1 := by
  by_cases hb : b = 0
  · rw [if_pos hb] at c ⊢
    omega
  · rw [if_neg hb]
    exact .inl rfl
theorem st_len : ∀ (l : List Int) (n : Int), (stL n l).length ≤ 2 * l.length
  | [], _ => Nat.le_refl _
  | b :: l, n => by
    have h := st_len l
    by_cases c : (if b = 0 then n + 1 else 0) = 2
    · rw [st_two c]
      have := h 0
      simp only [List.length_cons]
      omega
    · rw [st_one c]
      have := h (if b = 0 then n + 1 else 0)
      simp only [List.length_cons]
      omega
theorem st_byt : ∀ (l : List Int) (n : Int), (∀ b ∈ l, Byt b) → ∀ b ∈ stL n l, Byt b
  | [], _, _ => fun _ m => nomatch m
  | b :: l, n, h => fun x m => by
    have hb := h b List.mem_cons_self
    have hl := fun y m => h y (List.mem_cons_of_mem b m)
    by_cases c : (if b = 0 then n + 1 else 0) = 2
    · rw [st_two c] at m
      rcases List.mem_cons.mp m with rfl | m
      · exact hb
      · rcases List.mem_cons.mp m with rfl | m
        · exact ⟨by decide, by decide⟩
        · exact st_byt l 0 hl x m
    · rw [st_one c] at m
      rcases List.mem_cons.mp m with rfl | m
      · exact hb
      · exact st_byt l _ hl x m
theorem Ok.forM' {α β S R : Type} {g : β → α} {f : α → S → Res (Fl S R)} (I : List β → S → Prop) (hf : ∀ x xs s, I (x :: xs) s → Ok (f (g x) s) fun r => ∃ s', r = .nx s' ∧ I xs s') : ∀ {l : List β} {s : S}, I l s → Ok (forR (l.map g) s f) fun r => ∃ s', r = .nx s' ∧ I [] s'
  | [], s, h => ⟨_, rfl, s, rfl, h⟩
  | x :: xs, s, h => by
    refine Ok.bind (hf x xs s h) ?_
    rintro r ⟨s', rfl, h'⟩
    exact Ok.forM' I hf h'
def SI (row : List Int) (xs : List Int) (s : Int × List Int) : Prop := (s.1 = 0 ∨ s.1 = 1) ∧ s.2 ++ stL s.1 xs = stL 0 row ∧ s.2.length + 2 * xs.length ≤ 2 * row.length
theorem SI.two {row xs : List Int} {n b : Int} {acc : List Int} (h : SI row (b :: xs) (n, acc)) (c : (if b = 0 then n + 1 else 0) = 2) : SI row xs (0, (acc ++ [b]) ++ [2]) := by
  obtain ⟨h1, h2, h3⟩ := h
  simp only at h1 h2 h3
  rw [st_two c] at h2
  refine ⟨.inl rfl, by rw [← h2]; simp, ?_⟩
  simp only [List.length_append, List.length_cons, List.length_nil] at h3 ⊢
  omega
theorem SI.one {row xs : List Int} {n b : Int} {acc : List Int} (h : SI row (b :: xs) (n, acc)) (c : (if b = 0 then n + 1 else 0) ≠ 2) : SI row xs ((if b = 0 then n + 1 else 0), acc ++ [b]) := by
  obtain ⟨h1, h2, h3⟩ := h
  simp only at h1 h2 h3
  rw [st_one c] at h2
  refine ⟨?_, by rw [← h2]; simp, ?_⟩
  · exact nx01 h1 c
  · simp only [List.length_append, List.length_cons, List.length_nil] at h3 ⊢
    omega
theorem SI.len {row xs : List Int} {n b : Int} {acc : List Int} (h : SI row (b :: xs) (n, acc)) : acc.length + 2 ≤ 2 * row.length := by
  have h3 : acc.length + 2 * (xs.length + 1) ≤ 2 * row.length := h.2.2
  omega
theorem SI.end {row : List Int} {s : Int × List Int} (h : SI row [] s) : s.2 = stL 0 row := by
  have := h.2.1
  rw [show stL s.1 [] = [] from rfl, List.append_nil] at this
  exact this
theorem ok_eq {α : Type} {m : Res α} {a : α} (h : Ok m fun r => r = a) : m = .ok a := by
  obtain ⟨r, e, rfl⟩ := h
  exact e
theorem Ok.whileR {S R : Type} {f : S → Res (Fl S R)} (I : S → Prop) (Q : S → Prop) (Z : R → Prop) (μ : S → Nat) (hf : ∀ s, I s → Ok (f s) fun r => (∃ s', r = .nx s' ∧ I s' ∧ μ s' < μ s) ∨ (∃ s', r = .bk s' ∧ Q s') ∨ ∃ v, r = .rt v ∧ Z v) : ∀ (n : Nat) {s : S}, μ s < n → I s → Ok (Y.whileR n s f) fun r => (∃ s', r = .bk s' ∧ Q s') ∨ ∃ v, r = .rt v ∧ Z v
  | 0, s, h, _ => absurd h (Nat.not_lt_zero _)
  | n + 1, s, h, hI => by
    refine Ok.bind (hf s hI) ?_
    rintro r (⟨s', rfl, h', hm⟩ | ⟨s', rfl, q⟩ | ⟨v, rfl, q⟩)
    · exact Ok.whileR I Q Z μ hf n (by omega) h'
    · exact Ok.pure (.inl ⟨s', rfl, q⟩)
    · exact Ok.pure (.inr ⟨v, rfl, q⟩)
theorem cut2 {l : List Int} {i j : Nat} (h : i + j ≤ 2000000) : cutL l (some (i : Int)) (some ((i + j : Nat) : Int)) = (l.drop i).take j := by
  unfold cutL
  rw [HT.sIx_nat, HT.sIx_nat]
  by_cases c : i ≤ l.length
  · rw [show min i l.length = i by omega]
    rw [List.take_eq_take_iff, List.length_drop]
    omega
  · rw [show min i l.length = l.length by omega, List.drop_of_length_le (Nat.le_refl _), List.drop_of_length_le (by omega)]
    simp
end A

set_option Elab.async false
set_option linter.all false
set_option maxRecDepth 100000
set_option maxHeartbeats 2000000
namespace A
open PySem PySem.Spec PyProof.Rows L2 Y
open Y.Enc (enc)
/-! # contents of a box: bytes with their ends -/
theorem fd_nil {α : Type} {l : List α} {i : Nat} (h : l.length ≤ i) : l.drop i = [] := List.drop_of_length_le h
def nb (n b : Int) : Int := if b = 0 then n + 1 else 0
theorem nb01 {n b : Int} (h : n = 0 ∨ n = 1) (c : nb n b ≠ 2) : nb n b = 0 ∨ nb n b = 1 := nx01 h c
/-- so many bytes are read -/
def uu : Int → Nat → Nat → List Int → Option (List Int × Nat)
  | n, k, at_, [] => if n = 2 ∨ 0 < k then none else some ([], at_)
  | n, k, at_, b :: s => if n = 2 then (if b = 2 then uu 0 k (at_ + 1) s else none) else match k with
    | 0 => some ([], at_)
    | k + 1 => (uu (nb n b) k (at_ + 1) s).map fun x => (b :: x.1, x.2)
theorem nb2 {n b : Int} (h : n = 0 ∨ n = 1) (c : nb n b = 2) : b = 0 := by
  unfold nb at c
  by_cases hb : b = 0
  · exact hb
  · rw [if_neg hb] at c
    exact absurd c (by decide)
theorem whileEq {S R β : Type} {f : S → Res (Fl S R)} {g : S → Res β} {K : Fl S R → Res β} (I : S → Prop) (μ : S → Nat) (hf : ∀ s, I s → (∃ s', f s = .ok (.nx s') ∧ I s' ∧ μ s' < μ s ∧ g s' = g s) ∨ (∃ s', f s = .ok (.bk s') ∧ K (.bk s') = g s) ∨ ∃ v, f s = .ok (.rt v) ∧ K (.rt v) = g s) : ∀ (n : Nat) {s : S}, μ s < n → I s → (Y.whileR n s f).bind K = g s
  | 0, s, h, _ => absurd h (Nat.not_lt_zero _)
  | n + 1, s, h, hI => by
    show (Res.bind (Res.bind (f s) _) K) = _
    rcases hf s hI with ⟨s', e, h', hm, eg⟩ | ⟨s', e, q⟩ | ⟨v, e, q⟩
    · rw [e, ← eg]
      exact whileEq I μ hf n (by omega) h'
    · rw [e]
      exact q
    · rw [e]
      exact q
theorem atR {l : List Int} {i : Nat} {b : Int} {s : List Int} (h : l.drop i = b :: s) : ixR l (i : Int) = .ok b ∧ l.drop (i + 1) = s ∧ i < l.length := by
  have hi : i < l.length := by
    rcases Nat.lt_or_ge i l.length with h' | h'
    · exact h'
    · rw [fd_nil h'] at h; exact nomatch h
  rw [List.drop_eq_getElem_cons hi] at h
  injection h with h1 h2
  refine ⟨?_, h2, hi⟩
  unfold ixR
  obtain ⟨x, e1, e2, _⟩ := atI_in (l := l) (i := (i : Int)) (by omega) (by omega)
  rw [e1]
  rw [show ((i : Int)).toNat = i by omega, List.getElem?_eq_getElem hi, h1] at e2
  cases e2
  rfl
def okU (x : Option (List Int × Nat)) : Option (Tp2 (List Int) Int) := x.map fun x => ⟨x.1, (x.2 : Int)⟩
/-! # the law's reading of all contents -/
theorem cut_last {l : List Int} : cutL l none (some (-1)) = l.dropLast := by
  unfold cutL
  have e : HT.sIx l.length l.length (some (-1)) = l.length - 1 := by
    show (if (-1 : Int) < 0 then ((-1 : Int) + (l.length : Int)).toNat else min (-1 : Int).toNat l.length) = _
    rw [if_pos (by decide)]
    omega
  rw [List.dropLast_eq_take, e]
  rfl
theorem set_last {l : List Int} {a x : Int} : setR (l ++ [a]) (-1) x = .ok (l ++ [x]) := by
  unfold setR ixN
  rw [if_neg (by decide), if_pos (by rw [List.length_append]; show -((l.length + 1 : Nat) : Int) ≤ -1; omega)]
  show Res.ok ((l ++ [a]).set ((-1 : Int) + ((l ++ [a]).length : Nat)).toNat x) = _
  rw [show ((-1 : Int) + ((l ++ [a]).length : Nat)).toNat = l.length by rw [List.length_append]; show ((-1 : Int) + ((l.length + 1 : Nat) : Int)).toNat = _; omega]
  simp
theorem nb_mul {n b : Int} : (n + 1) * b2z (decide (b = 0)) = nb n b := by
  unfold nb
  by_cases hb : b = 0
  · rw [if_pos hb, decide_eq_true hb]; show (n + 1) * 1 = _; omega
  · rw [if_neg hb, decide_eq_false hb]; show (n + 1) * 0 = _; omega
def fsC (C : List (Int × Nat)) : List Int := C.map (·.1)
def snC (C : List (Int × Nat)) : List Int := C.map fun x => (x.2 : Int)
/-! # numbers in bytes -/
abbrev GRT : Int := 1000000000000000000000000000000000000000000000000000000000000
def num : Int → Nat → List Int → Option (Int × Nat)
  | _, _, [] => none
  | acc, k, b :: s => if GRT < acc * 128 + b % 128 then none else if b < 128 then some (acc * 128 + b % 128, k + 1) else num (acc * 128 + b % 128) (k + 1) s
def tpN (x : Option (Int × Nat)) : Option (Tp2 Int Int) := x.map fun x => ⟨x.1, (x.2 : Int)⟩
/-- the number at a place -/
def numb (k : Nat) (s : List Int) : Option (Int × Nat) := if s.head? = some 128 then none else num 0 k s
theorem head_one {s : List Int} : s.take 1 = [128] ↔ s.head? = some 128 := by cases s <;> simp
theorem number_m {row : List Int} {at_ : Nat} (hl : row.length ≤ 900000) (ha : at_ ≤ row.length) : m_number_at row (at_ : Int) = .ok (tpN (numb at_ (row.drop at_))) := by
  unfold m_number_at
  have ec : cutL row (some (at_ : Int)) (some ((at_ : Int) + 1)) = (row.drop at_).take 1 := cut2 (i := at_) (j := 1) (by omega)
  rw [ec]
  unfold guardR
  rw [if_pos (ok_rows _ _), eq_rows]
  unfold numb
  by_cases c : (row.drop at_).head? = some 128
  · rw [if_pos (decide_eq_true (head_one.mpr c)), if_pos c]
    rfl
  · rw [if_neg (by rw [decide_eq_false fun z => c (head_one.mp z)]; decide), if_neg c]
    refine (whileEq (S := Int × Int) (g := fun s => .ok (tpN (num s.1 s.2.toNat (row.drop s.2.toNat)))) (fun s => 0 ≤ s.2 ∧ s.2 ≤ (row.length : Int)) (fun s => row.length - s.2.toNat) ?_ _ (by show row.length - _ < _; omega) ⟨by show (0 : Int) ≤ (at_ : Int); omega, by show (at_ : Int) ≤ _; omega⟩).trans ?_
    · rintro ⟨acc, p⟩ ⟨h0, h1⟩
      simp only at h0 h1
      obtain ⟨i, rfl⟩ : ∃ i : Nat, p = (i : Int) := ⟨p.toNat, by omega⟩
      have hi : (i : Int).toNat = i := by omega
      simp only [hi]
      cases e : row.drop i with
      | nil =>
        have hir : i = row.length := by
          have : (row.drop i).length = 0 := by rw [e]; rfl
          rw [List.length_drop] at this
          omega
        exact .inr (.inl ⟨(acc, (i : Int)), by rw [if_neg (by rw [decide_eq_false (by omega)]; decide)], rfl⟩)
      | cons b s =>
        obtain ⟨e1, e2, e3⟩ := atR e
        have hi1 : ((i : Int) + 1).toNat = i + 1 := by omega
        rw [if_pos (decide_eq_true (by omega)), e1]
        show (∃ s', (if decide (GRT < acc * 128 + b % 128) = true then _ else _) = _ ∧ _) ∨ (∃ s', (if decide (GRT < acc * 128 + b % 128) = true then _ else _) = _ ∧ _) ∨ ∃ v, (if decide (GRT < acc * 128 + b % 128) = true then _ else _) = _ ∧ _
        have en : num acc i (b :: s) = if GRT < acc * 128 + b % 128 then none else if b < 128 then some (acc * 128 + b % 128, i + 1) else num (acc * 128 + b % 128) (i + 1) s := rfl
        rw [en]
        by_cases hg : GRT < acc * 128 + b % 128
        · rw [if_pos (decide_eq_true hg), if_pos hg]
          exact .inr (.inr ⟨_, rfl, rfl⟩)
        · rw [if_neg (by rw [decide_eq_false hg]; decide), if_neg hg, show (i : Int) + 1 - 1 = (i : Int) by omega, e1]
          show (∃ s', (if decide (b < 128) = true then _ else _) = _ ∧ _) ∨ (∃ s', (if decide (b < 128) = true then _ else _) = _ ∧ _) ∨ ∃ v, (if decide (b < 128) = true then _ else _) = _ ∧ _
          by_cases hb : b < 128
          · rw [if_pos (decide_eq_true hb), if_pos hb]
            exact .inr (.inr ⟨_, rfl, rfl⟩)
          · rw [if_neg (by rw [decide_eq_false hb]; decide), if_neg hb]
            exact .inl ⟨(_, (i : Int) + 1), rfl, ⟨by simp only; omega, by simp only; omega⟩, by simp only; omega, by simp only [hi1, e2]⟩
    · show Res.ok (tpN (num 0 (at_ : Int).toNat (row.drop (at_ : Int).toNat))) = _
      rw [show ((at_ : Int)).toNat = at_ by omega]
theorem rngI_cons {i j : Int} (h : i < j) : rngI i j = i :: rngI (i + 1) j := by
  unfold rngI
  rw [show (j - i).toNat = (j - (i + 1)).toNat + 1 by omega, List.range_succ_eq_map, List.map_cons, List.map_map]
  refine congr (congrArg _ (by omega)) (List.map_congr_left fun x _ => ?_)
  show i + ((x + 1 : Nat) : Int) = i + 1 + (x : Int)
  omega
theorem rngI_nil {i j : Int} (h : j ≤ i) : rngI i j = [] := by
  unfold rngI
  rw [show (j - i).toNat = 0 by omega]
  rfl
theorem num_take : ∀ (s : List Int) (acc : Int) (k j : Nat), num acc j (s.take k) = (num acc j s).filter fun x => decide (x.2 ≤ j + k)
  | [], acc, k, j => by cases k <;> rfl
  | b :: s, acc, 0, j => by
    show none = _
    cases h : num acc j (b :: s) with
    | none => rfl
    | some x =>
      have : ∀ (s : List Int) (acc : Int) (j : Nat), num acc j s = some x → j < x.2 := by
        intro s
        induction s with
        | nil => exact fun _ _ z => nomatch z
        | cons b s ih =>
          intro acc j z
          have en : num acc j (b :: s) = if GRT < acc * 128 + b % 128 then none else if b < 128 then some (acc * 128 + b % 128, j + 1) else num (acc * 128 + b % 128) (j + 1) s := rfl
          rw [en] at z
          by_cases hg : GRT < acc * 128 + b % 128
          · rw [if_pos hg] at z; exact nomatch z
          · rw [if_neg hg] at z
            by_cases hb : b < 128
            · rw [if_pos hb] at z; cases z; exact Nat.lt_succ_self _
            · rw [if_neg hb] at z; have := ih _ _ z; omega
      have := this _ _ _ h
      show none = if decide (x.2 ≤ j + 0) = true then some x else none
      rw [if_neg (by rw [decide_eq_false (by omega)]; decide)]
  | b :: s, acc, k + 1, j => by
    show (if GRT < acc * 128 + b % 128 then none else if b < 128 then some (acc * 128 + b % 128, j + 1) else num (acc * 128 + b % 128) (j + 1) (s.take k)) = Option.filter _ (if GRT < acc * 128 + b % 128 then none else if b < 128 then some (acc * 128 + b % 128, j + 1) else num (acc * 128 + b % 128) (j + 1) s)
    by_cases hg : GRT < acc * 128 + b % 128
    · rw [if_pos hg, if_pos hg]; rfl
    · rw [if_neg hg, if_neg hg]
      by_cases hb : b < 128
      · rw [if_pos hb, if_pos hb]
        show _ = if decide (j + 1 ≤ j + (k + 1)) = true then _ else _
        rw [if_pos (decide_eq_true (by omega))]
      · rw [if_neg hb, if_neg hb, num_take s _ k (j + 1)]
        refine congrArg (fun f => Option.filter f _) (funext fun x => ?_)
        exact decide_eq_decide.mpr (by omega)
theorem num_ge : ∀ (s : List Int) (acc : Int) (j : Nat) (x : Int × Nat), 0 ≤ acc → num acc j s = some x → 0 ≤ x.1 ∧ j < x.2 ∧ x.2 ≤ j + s.length ∧ acc * 128 ^ (x.2 - j) ≤ x.1
  | [], _, _, _, _, z => nomatch z
  | b :: s, acc, j, x, h0, z => by
    have en : num acc j (b :: s) = if GRT < acc * 128 + b % 128 then none else if b < 128 then some (acc * 128 + b % 128, j + 1) else num (acc * 128 + b % 128) (j + 1) s := rfl
    rw [en] at z
    by_cases hg : GRT < acc * 128 + b % 128
    · rw [if_pos hg] at z; exact nomatch z
    · rw [if_neg hg] at z
      have hm : 0 ≤ acc * 128 + b % 128 := by omega
      by_cases hb : b < 128
      · rw [if_pos hb] at z
        cases z
        refine ⟨hm, Nat.lt_succ_self _, by simp only [List.length_cons]; omega, ?_⟩
        rw [show j + 1 - j = 1 by omega]
        show acc * 128 ^ 1 ≤ acc * 128 + b % 128
        omega
      · rw [if_neg hb] at z
        obtain ⟨q0, q1, q2, q3⟩ := num_ge s _ (j + 1) x hm z
        refine ⟨q0, by omega, by simp only [List.length_cons]; omega, Int.le_trans ?_ q3⟩
        rw [show x.2 - j = (x.2 - (j + 1)) + 1 by omega, Int.pow_succ, Int.mul_comm (128 ^ _) 128, ← Int.mul_assoc]
        exact Int.mul_le_mul_of_nonneg_right (by omega) (Int.le_of_lt (Int.pow_pos (by decide)))
theorem numb_some {k : Nat} {s : List Int} {x : Int × Nat} (h : numb k s = some x) : 0 ≤ x.1 ∧ k < x.2 ∧ x.2 ≤ k + s.length := by
  unfold numb at h
  by_cases c : s.head? = some 128
  · rw [if_pos c] at h; exact nomatch h
  · rw [if_neg c] at h
    have := num_ge s 0 k x (Int.le_refl _) h
    exact ⟨this.1, this.2.1, this.2.2.1⟩
/-- a small number is read from three bytes -/
theorem numb_small {s : List Int} {x : Int × Nat} (hs : ∀ b ∈ s, Byt b) (h : numb 0 s = some x) (hx : x.1 ≤ 60000) : x.2 ≤ 3 := by
  unfold numb at h
  by_cases c : s.head? = some 128
  · rw [if_pos c] at h; exact nomatch h
  · rw [if_neg c] at h
    cases s with
    | nil => exact nomatch h
    | cons b s =>
      have hb0 := (hs b List.mem_cons_self).1
      have hb1 := (hs b List.mem_cons_self).2
      have hb2 : b ≠ 128 := fun z => c (by rw [z]; rfl)
      have en : num 0 0 (b :: s) = if GRT < 0 * 128 + b % 128 then none else if b < 128 then some (0 * 128 + b % 128, 1) else num (0 * 128 + b % 128) 1 s := rfl
      rw [en] at h
      by_cases hg : GRT < 0 * 128 + b % 128
      · rw [if_pos hg] at h; exact nomatch h
      · rw [if_neg hg] at h
        by_cases hb : b < 128
        · rw [if_pos hb] at h
          cases h
          exact (by decide : (1 : Nat) ≤ 3)
        · rw [if_neg hb] at h
          obtain ⟨_, q1, _, q3⟩ := num_ge s _ 1 x (by omega) h
          rcases Nat.lt_or_ge 3 x.2 with q | q
          · have p3 : (128 : Int) ^ 3 ≤ 128 ^ (x.2 - 1) := by
              have : (128 : Nat) ^ 3 ≤ 128 ^ (x.2 - 1) := Nat.pow_le_pow_right (by decide) (by omega)
              exact_mod_cast this
            have p4 : 1 * (128 : Int) ^ (x.2 - 1) ≤ (0 * 128 + b % 128) * 128 ^ (x.2 - 1) := Int.mul_le_mul_of_nonneg_right (by omega) (Int.le_of_lt (Int.pow_pos (by decide)))
            have p5 : (128 : Int) ^ 3 = 2097152 := by decide
            omega
          · exact q
theorem numb_take {s : List Int} {k : Nat} (hk : 0 < k) : numb 0 (s.take k) = (numb 0 s).filter fun x => decide (x.2 ≤ k) := by
  unfold numb
  rw [show (s.take k).head? = s.head? by cases s with | nil => rw [List.take_nil] | cons b s => obtain ⟨k, rfl⟩ : ∃ j, k = j + 1 := ⟨k - 1, by omega⟩; rfl]
  by_cases c : s.head? = some 128
  · rw [if_pos c, if_pos c]; rfl
  · rw [if_neg c, if_neg c, num_take]
    refine congrArg (fun f => Option.filter f _) (funext fun x => ?_)
    exact decide_eq_decide.mpr (by omega)
/-! # where a box stands -/
def ckb (k : Int) (b : List Int) : List Int := [sumB (k :: b) 1 / 256, sumB (k :: b) 1 % 256]
def hasStart (row : List Int) (at_ : Nat) : Bool := decide ((row.drop at_).take 3 = [0, 0, 1])
def sizeS (F : List Int) : Option (Int × Nat) :=
  if F.length < 1 then none else match numb 0 (F.take 1) with
  | some x => some x
  | none => if F.length < 2 then none else match numb 0 (F.take 2) with
    | some x => some x
    | none => if F.length < 3 then none else numb 0 (F.take 3)
/-- a size of the module's is the number of all contents -/
theorem size_numb {F : List Int} (hF : ∀ b ∈ F, Byt b) {x : Int × Nat} (hx : x.1 ≤ 60000) (hm : x.2 ≤ F.length) : sizeS F = some x ↔ numb 0 F = some x := by
  have tk : ∀ k, 0 < k → numb 0 (F.take k) = (numb 0 F).filter fun x => decide (x.2 ≤ k) := fun k h => numb_take h
  unfold sizeS
  rw [tk 1 (by decide), tk 2 (by decide), tk 3 (by decide)]
  cases e : numb 0 F with
  | none =>
    refine ⟨fun h => ?_, fun h => nomatch h⟩
    revert h
    show (if _ then none else (if _ then none else (if _ then none else none))) = some x → _
    split
    · exact fun h => nomatch h
    · split
      · exact fun h => nomatch h
      · split <;> exact fun h => nomatch h
  | some y =>
    have hy := numb_some e
    show (if F.length < 1 then none else match (if decide (y.2 ≤ 1) = true then some y else none) with
      | some x => some x
      | none => if F.length < 2 then none else match (if decide (y.2 ≤ 2) = true then some y else none) with
        | some x => some x
        | none => if F.length < 3 then none else if decide (y.2 ≤ 3) = true then some y else none) = some x ↔ _
    by_cases y1 : y.2 ≤ 1
    · rw [if_neg (by omega), if_pos (decide_eq_true y1)]
    · by_cases l1 : F.length < 1
      · rw [if_pos l1]
        exact ⟨fun h => (nomatch h), fun h => by cases h; omega⟩
      · rw [if_neg l1, if_neg (by rw [decide_eq_false y1]; decide)]
        show (if F.length < 2 then none else match (if decide (y.2 ≤ 2) = true then some y else none) with
          | some x => some x
          | none => if F.length < 3 then none else if decide (y.2 ≤ 3) = true then some y else none) = some x ↔ _
        by_cases l2 : F.length < 2
        · rw [if_pos l2]
          exact ⟨fun h => (nomatch h), fun h => by cases h; omega⟩
        · rw [if_neg l2]
          by_cases y2 : y.2 ≤ 2
          · rw [if_pos (decide_eq_true y2)]
          · rw [if_neg (by rw [decide_eq_false y2]; decide)]
            show (if F.length < 3 then none else if decide (y.2 ≤ 3) = true then some y else none) = some x ↔ _
            by_cases l3 : F.length < 3
            · rw [if_pos l3]
              exact ⟨fun h => (nomatch h), fun h => by cases h; omega⟩
            · rw [if_neg l3]
              by_cases y3 : y.2 ≤ 3
              · rw [if_pos (decide_eq_true y3)]
              · rw [if_neg (by rw [decide_eq_false y3]; decide)]
                exact ⟨fun h => (nomatch h), fun h => by cases h; exact absurd (numb_small hF e hx) y3⟩
/-- the box at a place: its kind, its body, its end -/
def boxC (row : List Int) (k : Int) (C : List (Int × Nat)) : Option (Tp3 Int (List Int) Int) := match numb 0 (fsC C) with
  | none => none
  | some x => if 60000 < x.1 then none else if C.length < x.2 + x.1.toNat + 2 then none else
    match C[x.2 + x.1.toNat + 1]? with
    | none => none
    | some e => if ((fsC C).drop (x.2 + x.1.toNat)).take 2 = ckb k (((fsC C).drop x.2).take x.1.toNat) ∧ (row.drop e.2).take 1 = [255] then some ⟨k, ((fsC C).drop x.2).take x.1.toNat, (e.2 : Int) + 1⟩ else none
theorem ix_in {l : List Int} {i : Nat} {x : Int} (h : l[i]? = some x) : ixR l (i : Int) = .ok x := by
  have hi : i < l.length := by
    rcases Nat.lt_or_ge i l.length with h' | h'
    · exact h'
    · rw [List.getElem?_eq_none h'] at h; exact nomatch h
  have e : l.drop i = x :: l.drop (i + 1) := by
    rw [List.getElem?_eq_getElem hi] at h
    cases h
    exact List.drop_eq_getElem_cons hi
  exact (atR e).1
theorem fsC_len (C : List (Int × Nat)) : (fsC C).length = C.length := List.length_map ..
theorem cut_neg2 {l : List Int} {j v : Nat} (h : l.length = j + v + 2) : cutL l (some (j : Int)) (some (-2)) = (l.drop j).take v := by
  unfold cutL
  have e : HT.sIx l.length l.length (some (-2)) = l.length - 2 := by
    show (if (-2 : Int) < 0 then ((-2 : Int) + (l.length : Int)).toNat else min (-2 : Int).toNat l.length) = _
    rw [if_pos (by decide)]
    omega
  rw [e, HT.sIx_nat, show min j l.length = j by omega, show l.length - 2 - j = v by omega]
theorem cut_tail2 {l : List Int} {n : Nat} (h : l.length = n + 2) : cutL l (some (-2)) none = l.drop n := by
  unfold cutL
  have e : HT.sIx l.length 0 (some (-2)) = n := by
    show (if (-2 : Int) < 0 then ((-2 : Int) + (l.length : Int)).toNat else min (-2 : Int).toNat l.length) = _
    rw [if_pos (by decide)]
    omega
  rw [e, HT.sIx_none]
  exact List.take_of_length_le (by rw [List.length_drop]; omega)
/-! # all boxes of a row -/
abbrev In3 := Tp3 Int Int (List Int)
theorem for_fm {α β R : Type} {f : α → List β → Res (Fl (List β) R)} {h : α → Option β} : ∀ {l : List α} {acc : List β}, acc.length + l.length < 1000000 → (∀ x ∈ l, ∀ acc : List β, acc.length < 1000000 → f x acc = .ok (.nx (acc ++ (h x).toList))) → forR l acc f = .ok (.nx (acc ++ l.filterMap h))
  | [], acc, _, _ => by
    rw [List.filterMap_nil, List.append_nil]
    rfl
  | x :: l, acc, hl, hf => by
    have hl' : acc.length + (l.length + 1) < 1000000 := hl
    show (Res.bind (f x acc) _) = _
    rw [hf x List.mem_cons_self acc (by omega)]
    show forR l (acc ++ (h x).toList) f = _
    have : (h x).toList.length ≤ 1 := by cases h x <;> simp
    rw [for_fm (by rw [List.length_append]; omega) fun y m => hf y (List.mem_cons_of_mem _ m)]
    cases e : h x with
    | none => rw [List.filterMap_cons_none e]; rw [show (none : Option β).toList = [] from rfl, List.append_nil]
    | some y => rw [List.filterMap_cons_some e]; rw [List.append_assoc]; rfl
theorem compL_fm {α β : Type} {f : α → Unit → Res (Option β × Unit)} {g : α → Option β} : ∀ {l : List α}, (∀ x ∈ l, f x () = .ok (g x, ())) → compL l () f = .ok (l.filterMap g, ())
  | [], _ => rfl
  | x :: l, h => by
    show (Res.bind (f x ()) _) = _
    rw [h x List.mem_cons_self]
    show (Res.bind (compL l () f) _) = _
    rw [compL_fm fun y m => h y (List.mem_cons_of_mem _ m)]
    cases e : g x with
    | none => rw [List.filterMap_cons_none e]; rfl
    | some y => rw [List.filterMap_cons_some e]; rfl
theorem compR_fm {α β : Type} {f : α → Unit → Res (Option β × Unit)} {g : α → Option β} {l : List α} (hl : l.length ≤ 1000000) (h : ∀ x ∈ l, f x () = .ok (g x, ())) : compR l () f = .ok (l.filterMap g, ()) := by
  have e : compR l () f = guardR (l.length ≤ 1000000) (compL l () f) := rfl
  rw [e]
  unfold guardR
  rw [if_pos hl, compL_fm h]
theorem mem_rg {lo hi x : Int} (h : x ∈ rngI lo hi) : lo ≤ x ∧ x < hi := by
  unfold rngI at h
  obtain ⟨i, m, rfl⟩ := List.mem_map.mp h
  have := List.mem_range.mp m
  omega
theorem rg_mem {lo hi x : Int} (h : lo ≤ x) (h' : x < hi) : x ∈ rngI lo hi := by
  unfold rngI
  exact List.mem_map.mpr ⟨(x - lo).toNat, List.mem_range.mpr (by omega), by omega⟩
theorem rg_len (lo hi : Int) : (rngI lo hi).length = (hi - lo).toNat := by unfold rngI; simp
theorem start_len {row : List Int} {at_ : Nat} (h : hasStart row at_ = true) : at_ + 3 ≤ row.length := by
  have := congrArg List.length (of_decide_eq_true h)
  rw [List.length_take, List.length_drop] at this
  have e : ([0, 0, 1] : List Int).length = 3 := rfl
  omega
theorem start_zero {row : List Int} {at_ : Nat} (h : hasStart row at_ = true) : row[at_]? = some 0 := by
  have := congrArg (fun l : List Int => l[0]?) (of_decide_eq_true h)
  rw [← Nat.add_zero at_, ← List.getElem?_drop]
  rw [List.getElem?_take_of_lt (by decide)] at this
  exact this
/-! # a box that was laid is there -/
/-- a box, byte for byte -/
def bxF (k : Int) (fg b : List Int) : List Int := ([0, 0, 1, k] ++ stL 0 ((fg ++ b) ++ ckb k b)) ++ [255]
/-- figures that are read as a number -/
def Fig (v : Nat) (fg : List Int) : Prop := (∀ r, numb 0 (fg ++ r) = some ((v : Int), fg.length)) ∧ ∀ b ∈ fg, Byt b
theorem fig_small {v : Nat} (h : v < 128) : Fig v [(v : Int)] := by
  refine ⟨fun r => ?_, fun b m => ?_⟩
  · show numb 0 ((v : Int) :: r) = _
    unfold numb
    rw [if_neg (fun z => by have : ((v : Int)) = 128 := by injection z
                            omega)]
    show (if GRT < 0 * 128 + (v : Int) % 128 then none else if (v : Int) < 128 then some (0 * 128 + (v : Int) % 128, 1) else _) = _
    have e : (0 : Int) * 128 + (v : Int) % 128 = (v : Int) := by omega
    rw [e, if_neg (show ¬ GRT < (v : Int) by unfold GRT; omega), if_pos (by omega)]
    rfl
  · rw [List.mem_singleton.mp m]
    exact ⟨by omega, by omega⟩
end A

set_option Elab.async false
set_option linter.all false
set_option maxRecDepth 100000
set_option maxHeartbeats 2000000
namespace A
open PySem PySem.Spec PyProof.Rows L2 Y
open Y.Enc (enc)
/-! # the bytes of numbers, and numbers read from them -/
/-- all bytes but the last one, of what stands ahead of it -/
def hi (n : Nat) : List Int := if h : n = 0 then [] else hi (n / 128) ++ [128 + (n : Int) % 128]
termination_by n
decreasing_by exact Nat.div_lt_self (Nat.pos_of_ne_zero h) (by decide)
theorem hi0 : hi 0 = [] := by rw [hi]; rfl
theorem hiS {n : Nat} (h : 0 < n) : hi n = hi (n / 128) ++ [128 + (n : Int) % 128] := by
  rw [hi, dif_neg (by omega)]
def wr (n : Nat) : List Int := hi (n / 128) ++ [(n : Int) % 128]
theorem wr_ne (n : Nat) : 0 < (wr n).length := by unfold wr; rw [List.length_append]; exact Nat.succ_pos _
theorem hi_len : ∀ (k n : Nat), n < 128 ^ k → (hi n).length ≤ k
  | 0, n, h => by
    have : n = 0 := by rw [Nat.pow_zero] at h; omega
    subst this
    rw [hi0]; exact Nat.le_refl _
  | k + 1, n, h => by
    rcases Nat.eq_zero_or_pos n with rfl | h0
    · rw [hi0]; exact Nat.zero_le _
    · rw [hiS h0, List.length_append]
      have := hi_len k (n / 128) (by rw [Nat.div_lt_iff_lt_mul (by decide)]; rw [Nat.pow_succ] at h; exact h)
      show _ + 1 ≤ _
      omega
theorem wr_len {k n : Nat} (h : n < 128 ^ (k + 1)) : (wr n).length ≤ k + 1 := by
  unfold wr
  rw [List.length_append]
  have := hi_len k (n / 128) (by rw [Nat.div_lt_iff_lt_mul (by decide)]; rw [Nat.pow_succ] at h; exact h)
  show _ + 1 ≤ _
  omega
theorem hi_byt : ∀ (n : Nat), ∀ b ∈ hi n, Byt b := by
  intro n
  induction n using Nat.strongRecOn with
  | _ n ih =>
    intro b m
    rcases Nat.eq_zero_or_pos n with rfl | h0
    · rw [hi0] at m; exact nomatch m
    · rw [hiS h0] at m
      rcases List.mem_append.mp m with m | m
      · exact ih _ (Nat.div_lt_self h0 (by decide)) b m
      · rw [List.mem_singleton.mp m]
        constructor <;> omega
theorem wr_byt {n : Nat} : ∀ b ∈ wr n, Byt b := fun b m => by
  rcases List.mem_append.mp m with m | m
  · exact hi_byt _ b m
  · rw [List.mem_singleton.mp m]
    constructor <;> omega
theorem hi_head : ∀ (n : Nat), 0 < n → ∃ b r, hi n = b :: r ∧ 128 < b := by
  intro n
  induction n using Nat.strongRecOn with
  | _ n ih =>
    intro h0
    rw [hiS h0]
    rcases Nat.eq_zero_or_pos (n / 128) with h | h
    · rw [h, hi0]
      exact ⟨_, _, rfl, by omega⟩
    · obtain ⟨b, r, e, hb⟩ := ih _ (Nat.div_lt_self h0 (by decide)) h
      rw [e]
      exact ⟨b, _, rfl, hb⟩
theorem hi_no {n : Nat} {s : List Int} (hs : s.head? ≠ some 128) : (hi n ++ s).head? ≠ some 128 := by
  rcases Nat.eq_zero_or_pos n with rfl | h
  · rw [hi0]; exact hs
  · obtain ⟨b, r, e, hb⟩ := hi_head n h
    rw [e]
    intro z
    injection z with z
    omega
theorem num_hi : ∀ (n : Nat) (s : List Int) (k : Nat), (n : Int) ≤ GRT → num 0 k (hi n ++ s) = num n (k + (hi n).length) s := by
  intro n
  induction n using Nat.strongRecOn with
  | _ n ih =>
    intro s k hg
    rcases Nat.eq_zero_or_pos n with rfl | h0
    · rw [hi0]; rfl
    · rw [hiS h0, List.append_assoc, ih _ (Nat.div_lt_self h0 (by decide)) _ _ (by omega)]
      show num ((n / 128 : Nat) : Int) _ ((128 + (n : Int) % 128) :: s) = _
      have e : ((n / 128 : Nat) : Int) * 128 + (128 + (n : Int) % 128) % 128 = n := by omega
      show (if GRT < ((n / 128 : Nat) : Int) * 128 + (128 + (n : Int) % 128) % 128 then none else if 128 + (n : Int) % 128 < 128 then _ else num (((n / 128 : Nat) : Int) * 128 + (128 + (n : Int) % 128) % 128) _ s) = _
      rw [e, if_neg (by omega), if_neg (by omega), List.length_append]
      rfl
/-- a number is read where it was written -/
theorem numb_wr {n k : Nat} {s : List Int} (hg : (n : Int) ≤ GRT) : numb k (wr n ++ s) = some ((n : Int), k + (wr n).length) := by
  unfold numb wr
  rw [List.append_assoc, if_neg (hi_no (by simp; omega)), num_hi _ _ _ (by omega)]
  show (if GRT < ((n / 128 : Nat) : Int) * 128 + ((n : Int) % 128) % 128 then none else if (n : Int) % 128 < 128 then some (((n / 128 : Nat) : Int) * 128 + ((n : Int) % 128) % 128, _) else _) = _
  have e : ((n / 128 : Nat) : Int) * 128 + ((n : Int) % 128) % 128 = n := by omega
  rw [e, if_neg (by omega), if_pos (by omega), List.length_append]
  rfl
/-- where its last byte is left out none stands -/
theorem numb_cut {n k : Nat} (hg : (n : Int) ≤ GRT) : numb k (hi (n / 128)) = none := by
  have e := num_hi (n / 128) [] k (by omega)
  rw [List.append_nil] at e
  have h := hi_no (n := n / 128) (s := []) (by simp)
  rw [List.append_nil] at h
  unfold numb
  rw [if_neg h, e]
  rfl
theorem pow_lim {k : Nat} (h : (128 : Nat) ^ k ≤ 10 ^ 60) : k < 100 := by
  rcases Nat.lt_or_ge k 100 with h' | h'
  · exact h'
  · have : (128 : Nat) ^ 100 ≤ 128 ^ k := Nat.pow_le_pow_right (by decide) h'
    have : (10 : Nat) ^ 60 < 128 ^ 100 := by decide +kernel
    omega
theorem gpos {α : Type} {p : Prop} [Decidable p] {m : Res α} (h : p) : guardR p m = m := if_pos h
theorem whole_n {n : Nat} (hg : (n : Int) ≤ GRT) : m_is_whole (enc (n : Int)) 0 GRT = .ok true := by
  show Res.ok (decide (0 ≤ (n : Int)) && decide ((n : Int) ≤ GRT)) = _
  rw [decide_eq_true (by omega), decide_eq_true hg]
  rfl
theorem written_m {n : Nat} (hg : (n : Int) ≤ GRT) : m_written (n : Int) = .ok (wr n) := by
  unfold m_written
  rw [whole_n hg]
  show Res.bind (whileR _ _ _) _ = _
  refine (whileEq (S := Int × List Int) (g := fun s => .ok (hi s.1.toNat ++ s.2.reverse)) (fun s => 0 ≤ s.1 ∧ 128 ^ s.2.length * s.1.toNat ≤ 10 ^ 60) (fun s => s.1.toNat) ?_ _ (by show ((n : Int) / 128).toNat < _; omega) ⟨by show 0 ≤ (n : Int) / 128; omega, by show 128 ^ 1 * ((n : Int) / 128).toNat ≤ _; have : (n : Int) ≤ 10 ^ 60 := hg; omega⟩).trans ?_
  · rintro ⟨m, acc⟩ ⟨h0, h1⟩
    simp only at h0 h1
    obtain ⟨i, rfl⟩ : ∃ i : Nat, m = (i : Int) := ⟨m.toNat, by omega⟩
    simp only [show ((i : Int)).toNat = i by omega] at h1 ⊢
    by_cases c : 0 < (i : Int)
    · have hl : acc.length < 100 := pow_lim (Nat.le_trans (Nat.le_mul_of_pos_right _ (by omega)) h1)
      refine .inl ⟨((i : Int) / 128, acc ++ [128 + (i : Int) % 128]), ?_, ⟨by simp only; omega, ?_⟩, by simp only; omega, ?_⟩
      · rw [if_pos (decide_eq_true c)]
        unfold guardR
        rw [if_pos (by omega)]
        rfl
      · simp only [List.length_append, List.length_singleton, show ((i : Int) / 128).toNat = i / 128 by omega, Nat.pow_succ]
        refine Nat.le_trans ?_ h1
        rw [Nat.mul_assoc]
        exact Nat.mul_le_mul_left _ (Nat.mul_div_le i 128)
      · simp only [show ((i : Int) / 128).toNat = i / 128 by omega]
        rw [List.reverse_append, hiS (n := i) (by omega), List.append_assoc]
        rfl
    · refine .inr (.inl ⟨((i : Int), acc), ?_, ?_⟩)
      · rw [if_neg (by rw [decide_eq_false c]; decide)]
      · have : i = 0 := by omega
        subst this
        rw [hi0]
        rfl
  · show Res.ok (hi ((n : Int) / 128).toNat ++ _) = _
    rw [show ((n : Int) / 128).toNat = n / 128 by omega]
    rfl
theorem figures_l {n : Nat} (hg : (n : Int) ≤ GRT) : l_figures (n : Int) = .ok (wr n) := by
  unfold l_figures
  refine (whileEq (S := Int × List Int) (g := fun s => .ok (hi (s.1.toNat / 128) ++ s.2)) (fun s => 0 ≤ s.1 ∧ 128 ^ (s.2.length - 1) * s.1.toNat ≤ 10 ^ 60 ∧ 0 < s.2.length) (fun s => s.1.toNat) ?_ _ (by show ((n : Int)).toNat < _; omega) ⟨by show 0 ≤ (n : Int); omega, by show 128 ^ 0 * ((n : Int)).toNat ≤ _; have : (n : Int) ≤ 10 ^ 60 := hg; omega, by show 0 < 1; decide⟩).trans ?_
  · rintro ⟨m, acc⟩ ⟨h0, h1, h2⟩
    simp only at h0 h1 h2
    obtain ⟨i, rfl⟩ : ∃ i : Nat, m = (i : Int) := ⟨m.toNat, by omega⟩
    simp only [show ((i : Int)).toNat = i by omega] at h1 ⊢
    by_cases c : 128 ≤ (i : Int)
    · have hl : acc.length - 1 < 100 := pow_lim (Nat.le_trans (Nat.le_mul_of_pos_right _ (by omega)) h1)
      refine .inl ⟨((i : Int) / 128, (128 + (i : Int) / 128 % 128) :: acc), ?_, ⟨by simp only; omega, ?_, Nat.succ_pos _⟩, by simp only; omega, ?_⟩
      · rw [if_pos (decide_eq_true c)]
        show guardR _ _ = _
        unfold guardR
        rw [if_pos (by show 1 + _ ≤ _; omega)]
        rfl
      · simp only [List.length_cons, show ((i : Int) / 128).toNat = i / 128 by omega]
        obtain ⟨k, hk⟩ : ∃ k, acc.length = k + 1 := ⟨acc.length - 1, by omega⟩
        rw [hk] at h1 ⊢
        simp only [Nat.add_sub_cancel] at h1 ⊢
        rw [Nat.pow_succ, Nat.mul_assoc]
        exact Nat.le_trans (Nat.mul_le_mul_left _ (Nat.mul_div_le i 128)) h1
      · simp only [show ((i : Int) / 128).toNat = i / 128 by omega]
        rw [hiS (n := i / 128) (by omega), List.append_assoc]
        rfl
    · refine .inr (.inl ⟨((i : Int), acc), ?_, ?_⟩)
      · rw [if_neg (by rw [decide_eq_false c]; decide)]
      · rw [show i / 128 = 0 by omega, hi0]
        rfl
  · show Res.ok (hi (((n : Int)).toNat / 128) ++ _) = _
    rw [show ((n : Int)).toNat = n by omega]
    rfl
/-- the bytes of numbers, one after another -/
def wrs (ns : List Int) : List Int := ns.flatMap fun n => wr n.toNat
theorem wrs_cons (n : Int) (ns : List Int) : wrs (n :: ns) = wr n.toNat ++ wrs ns := List.flatMap_cons
theorem wrs_nil : wrs [] = [] := rfl
theorem wrs_app (a b : List Int) : wrs (a ++ b) = wrs a ++ wrs b := List.flatMap_append
theorem wrs_byt {ns : List Int} : ∀ b ∈ wrs ns, Byt b := fun b m => by
  obtain ⟨n, _, h⟩ := List.mem_flatMap.mp m
  exact wr_byt b h
/-- a number that may be written, of at most so many bytes -/
def Nm (k : Nat) (n : Int) : Prop := 0 ≤ n ∧ n ≤ GRT ∧ n.toNat < 128 ^ (k + 1)
theorem wrs_len {k : Nat} : ∀ {ns : List Int}, (∀ n ∈ ns, Nm k n) → (wrs ns).length ≤ (k + 1) * ns.length
  | [], _ => Nat.zero_le _
  | n :: ns, h => by
    rw [wrs_cons, List.length_append, List.length_cons, Nat.mul_succ]
    have := wr_len (h n List.mem_cons_self).2.2
    have := wrs_len fun m q => h m (List.mem_cons_of_mem _ q)
    omega
theorem nm_nat {k : Nat} {n : Int} (h : Nm k n) : ∃ m : Nat, n = (m : Int) ∧ (m : Int) ≤ GRT := ⟨n.toNat, by have := h.1; omega, by have := h.1; have := h.2.1; omega⟩
theorem all_m {k : Nat} {ns : List Int} (h : ∀ n ∈ ns, Nm k n) (hl : (k + 1) * ns.length ≤ 900000) : m_all_written ns = .ok (wrs ns) := by
  unfold m_all_written
  have main : ∀ (ns acc : List Int), (∀ n ∈ ns, Nm k n) → acc.length + (k + 1) * ns.length ≤ 900000 → forR ns acc (fun x19 (a18 : (List Int)) => ((m_written x19).noErr).bind fun x26 => guardR (a18.length + x26.length ≤ 1000000) <| (.ok (.nx (a18 ++ x26)) : Res (Fl (List Int) (List Int)))) = .ok (.nx (acc ++ wrs ns)) := by
    intro ns
    induction ns with
    | nil => intro acc _ _; rw [wrs_nil, List.append_nil]; rfl
    | cons n ns ih =>
      intro acc h hl
      obtain ⟨m, rfl, hg⟩ := nm_nat (h n List.mem_cons_self)
      have hw := wr_len (h (m : Int) List.mem_cons_self).2.2
      rw [show ((m : Int)).toNat = m by omega] at hw
      rw [List.length_cons, Nat.mul_succ] at hl
      show Res.bind (Res.bind (m_written (m : Int)).noErr _) _ = _
      rw [written_m hg]
      show Res.bind (guardR _ _) _ = _
      rw [gpos (by omega)]
      show forR ns (acc ++ wr m) _ = _
      rw [ih _ (fun n q => h n (List.mem_cons_of_mem _ q)) (by rw [List.length_append]; omega), wrs_cons, show ((m : Int)).toNat = m by omega, List.append_assoc]
  rw [main ns [] h (by show 0 + _ ≤ _; omega)]
  rfl
theorem all_l {k : Nat} {ns : List Int} (h : ∀ n ∈ ns, Nm k n) (hl : (k + 1) * ns.length ≤ 900000) : l_all_figures ns = .ok (wrs ns) := by
  unfold l_all_figures
  have main : ∀ (ns acc : List Int), (∀ n ∈ ns, Nm k n) → acc.length + (k + 1) * ns.length ≤ 900000 → forR ns acc (fun x19 (a18 : (List Int)) => (l_figures x19).bind fun x26 => guardR (a18.length + x26.length ≤ 1000000) <| (.ok (.nx (a18 ++ x26)) : Res (Fl (List Int) (List Int)))) = .ok (.nx (acc ++ wrs ns)) := by
    intro ns
    induction ns with
    | nil => intro acc _ _; rw [wrs_nil, List.append_nil]; rfl
    | cons n ns ih =>
      intro acc h hl
      obtain ⟨m, rfl, hg⟩ := nm_nat (h n List.mem_cons_self)
      have hw := wr_len (h (m : Int) List.mem_cons_self).2.2
      rw [show ((m : Int)).toNat = m by omega] at hw
      rw [List.length_cons, Nat.mul_succ] at hl
      show Res.bind (Res.bind (l_figures (m : Int)) _) _ = _
      rw [figures_l hg]
      show Res.bind (guardR _ _) _ = _
      rw [gpos (by omega)]
      show forR ns (acc ++ wr m) _ = _
      rw [ih _ (fun n q => h n (List.mem_cons_of_mem _ q)) (by rw [List.length_append]; omega), wrs_cons, show ((m : Int)).toNat = m by omega, List.append_assoc]
  rw [main ns [] h (by show 0 + _ ≤ _; omega)]
  rfl
/-! ## reading -/
/-- the reader at a place of a row -/
def rdr (row : List Int) (k : Nat) : List D := [enc row, .int (k : Int)]
theorem dec_row : ∀ (l : List Int), decs (α := Int) (l.map enc) = some l
  | [] => rfl
  | i :: l => by
    show Option.bind (some i) (fun x => Option.bind (decs (l.map enc)) fun xs => some (x :: xs)) = _
    rw [dec_row l]
    rfl
theorem asD_row (l : List Int) : asD (List Int) (enc l) = .ok l := by
  unfold asD
  rw [show Dec.dec (enc l) = some l from dec_row l]
def read1 (x : Option (Tp2 Int Int)) (row : List Int) (lo hi' : Int) : Res (Int × List D) := match x with
  | none => .err ⟨"NoBody", []⟩
  | some x => if decide (lo ≤ x.a) = true then (if decide (x.a ≤ hi') = true then .ok (x.a, [enc row, enc (x.b : Int)]) else .err ⟨"NoBody", []⟩) else .err ⟨"NoBody", []⟩
theorem number_eq {row : List Int} {k : Nat} {lo hi' : Int} (hl : row.length ≤ 900000) (hk : k ≤ row.length) : m_Numbers__number (rdr row k) lo hi' = read1 (tpN (numb k (row.drop k))) row lo hi' := by
  unfold m_Numbers__number
  show Res.bind (asD (List Int) (enc row)) _ = _
  rw [asD_row]
  show Res.bind (m_number_at row (k : Int)).noErr _ = _
  rw [number_m hl hk]
  cases numb k (row.drop k) <;> rfl
/-- the number that comes is read -/
theorem read_num {pre s : List Int} {n : Int} {k : Nat} {lo hi' : Int} (hl : (pre ++ (wr n.toNat ++ s)).length ≤ 900000) (hk : pre.length = k) (h0 : 0 ≤ n) (hg : n ≤ GRT) (h1 : lo ≤ n) (h2 : n ≤ hi') : m_Numbers__number (rdr (pre ++ (wr n.toNat ++ s)) k) lo hi' = .ok (n, rdr (pre ++ (wr n.toNat ++ s)) (k + (wr n.toNat).length)) := by
  subst hk
  rw [number_eq hl (by rw [List.length_append]; omega), List.drop_left, numb_wr (by omega)]
  have e : ((n.toNat : Nat) : Int) = n := by omega
  show (if decide (lo ≤ ((n.toNat : Nat) : Int)) = true then (if decide (((n.toNat : Nat) : Int) ≤ hi') = true then _ else _) else _) = _
  rw [e, if_pos (decide_eq_true h1), if_pos (decide_eq_true h2)]
  rfl
/-- where it breaks off nothing is read -/
theorem read_cut {pre : List Int} {n : Int} {k : Nat} {lo hi' : Int} (hl : (pre ++ hi (n.toNat / 128)).length ≤ 900000) (hk : pre.length = k) (h0 : 0 ≤ n) (hg : n ≤ GRT) : m_Numbers__number (rdr (pre ++ hi (n.toNat / 128)) k) lo hi' = .err ⟨"NoBody", []⟩ := by
  subst hk
  rw [number_eq hl (by rw [List.length_append]; omega), List.drop_left, numb_cut (by omega)]
  rfl
theorem wrs_cut {ns : List Int} {n : Int} : (wrs (ns ++ [n])).take ((wrs (ns ++ [n])).length - 1) = wrs ns ++ hi (n.toNat / 128) := by
  rw [wrs_app, show wrs [n] = wr n.toNat from by rw [wrs_cons, wrs_nil, List.append_nil]]
  unfold wr
  rw [← List.append_assoc, List.length_append, show ([(n.toNat : Int) % 128] : List Int).length = 1 from rfl, Nat.add_sub_cancel, List.take_left]
end A
namespace A
open PySem PySem.Spec PyProof.Rows L2 Y
open Y.Enc (enc)
/-! ## things that are read one after another -/
/-- f reads what w lays, as v -/
def Rds {β γ : Type} (f : List D → Res (β × List D)) (w : γ → List Int) (v : γ → β) (g : γ) : Prop := ∀ pre s : List Int, (pre ++ (w g ++ s)).length ≤ 900000 → f (rdr (pre ++ (w g ++ s)) pre.length) = .ok (v g, rdr (pre ++ (w g ++ s)) (pre.length + (w g).length))
/-- f is refused where c breaks off -/
def Cut {β : Type} (f : List D → Res (β × List D)) (c : List Int) : Prop := ∀ pre : List Int, (pre ++ c).length ≤ 900000 → f (rdr (pre ++ c) pre.length) = .err ⟨"NoBody", []⟩
section
variable {β γ : Type} {f : List D → Res (β × List D)} {w : γ → List Int} {v : γ → β}
theorem compL_rds : ∀ (gs : List γ) (l : List Int) (pre s : List Int), l.length = gs.length → (∀ g ∈ gs, Rds f w v g) → (pre ++ (gs.flatMap w ++ s)).length ≤ 900000 →
    compL l (rdr (pre ++ (gs.flatMap w ++ s)) pre.length) (fun _ a => (f a).bind fun x => .ok (some x.1, x.2)) = .ok (gs.map v, rdr (pre ++ (gs.flatMap w ++ s)) (pre.length + (gs.flatMap w).length))
  | [], [], pre, s, _, _, _ => rfl
  | [], _ :: _, _, _, h, _, _ => nomatch h
  | _ :: _, [], _, _, h, _, _ => nomatch h
  | g :: gs, i :: l, pre, s, hl, hf, hz => by
    have e1 : pre ++ ((g :: gs).flatMap w ++ s) = pre ++ (w g ++ (gs.flatMap w ++ s)) := by rw [List.flatMap_cons, List.append_assoc]
    have e2 : pre ++ (w g ++ (gs.flatMap w ++ s)) = (pre ++ w g) ++ (gs.flatMap w ++ s) := (List.append_assoc ..).symm
    rw [e1] at hz ⊢
    show Res.bind (Res.bind (f _) _) _ = _
    rw [hf g List.mem_cons_self pre _ hz]
    show Res.bind (compL l (rdr (pre ++ (w g ++ (gs.flatMap w ++ s))) (pre.length + (w g).length)) _) _ = _
    rw [e2] at hz ⊢
    rw [← List.length_append, compL_rds gs l (pre ++ w g) s (Nat.succ.inj hl) (fun x m => hf x (List.mem_cons_of_mem _ m)) hz, List.flatMap_cons, List.length_append, List.length_append, Nat.add_assoc]
    rfl
theorem compL_cut {c : List Int} (hc : Cut f c) : ∀ (gs : List γ) (l : List Int) (pre : List Int), gs.length < l.length → (∀ g ∈ gs, Rds f w v g) → (pre ++ (gs.flatMap w ++ c)).length ≤ 900000 →
    compL l (rdr (pre ++ (gs.flatMap w ++ c)) pre.length) (fun _ a => (f a).bind fun x => .ok (some x.1, x.2)) = .err ⟨"NoBody", []⟩
  | _, [], _, h, _, _ => absurd h (Nat.not_lt_zero _)
  | [], i :: l, pre, _, _, hz => by
    show Res.bind (Res.bind (f _) _) _ = _
    rw [show ([] : List γ).flatMap w ++ c = c from rfl] at hz ⊢
    rw [hc pre hz]
    rfl
  | g :: gs, i :: l, pre, hl, hf, hz => by
    have e1 : pre ++ ((g :: gs).flatMap w ++ c) = pre ++ (w g ++ (gs.flatMap w ++ c)) := by rw [List.flatMap_cons, List.append_assoc]
    have e2 : pre ++ (w g ++ (gs.flatMap w ++ c)) = (pre ++ w g) ++ (gs.flatMap w ++ c) := (List.append_assoc ..).symm
    rw [e1] at hz ⊢
    show Res.bind (Res.bind (f _) _) _ = _
    rw [hf g List.mem_cons_self pre _ hz]
    show Res.bind (compL l (rdr (pre ++ (w g ++ (gs.flatMap w ++ c))) (pre.length + (w g).length)) _) _ = _
    rw [e2] at hz ⊢
    rw [← List.length_append, compL_cut hc gs l (pre ++ w g) (Nat.lt_of_succ_lt_succ hl) (fun x m => hf x (List.mem_cons_of_mem _ m)) hz]
    rfl
end
/-- one number within bounds -/
theorem rds_num {lo hi' n : Int} (h0 : 0 ≤ n) (hg : n ≤ GRT) (h1 : lo ≤ n) (h2 : n ≤ hi') : Rds (fun a => m_Numbers__number a lo hi') (fun n : Int => wr n.toNat) (fun n => n) n := fun pre s hl => read_num hl rfl h0 hg h1 h2
theorem cut_num {lo hi' n : Int} (h0 : 0 ≤ n) (hg : n ≤ GRT) : Cut (fun a => m_Numbers__number a lo hi') (hi (n.toNat / 128)) := fun pre hl => read_cut hl rfl h0 hg
/-- nothing at all -/
theorem cut_nil {lo hi' : Int} : Cut (fun a => m_Numbers__number a lo hi') [] := fun pre hl => by
  have := cut_num (lo := lo) (hi' := hi') (n := 0) (by decide) (by decide) pre
  rw [show hi ((0 : Int).toNat / 128) = [] from hi0] at this
  exact this hl
theorem eqOk_lst {α : Type} [Enc α] {n : Nat} : ∀ {l : List α}, (∀ x ∈ l, eqOk n (enc x) = true) → eqOks n (l.map enc) = true
  | [], _ => rfl
  | x :: l, h => by
    show (eqOk n (enc x) && eqOks n (l.map enc)) = true
    rw [h x List.mem_cons_self, eqOk_lst fun y m => h y (List.mem_cons_of_mem _ m)]
    rfl
theorem same {d : D} (h : eqOk 20 d = true) : okEq d d ∧ eqD d d = true := ⟨okEq_of h h, eqD_refl (eqOk_flat _ 20 h).1⟩
theorem mapD (l : List D) : l.map (enc : D → D) = l := List.map_id l
theorem row_more {l : List Int} {b : Int} : eqD (enc l) (enc (l ++ [b])) = false := by
  rw [eq_rows]
  refine decide_eq_false fun e => ?_
  have := congrArg List.length e
  rw [List.length_append, List.length_singleton] at this
  omega
theorem cut_most {l : List Int} : cutL l none (some (-1)) = l.take (l.length - 1) := by
  rw [A.cut_last, List.dropLast_eq_take]
end A

set_option Elab.async false
set_option linter.all false
set_option maxRecDepth 100000
set_option maxHeartbeats 2000000
namespace A
open PySem PySem.Spec PyProof.Rows L2 Y
open Y.Enc (enc)
abbrev R6 := Tp6 Int Int Int Int Int Int
def rowI (r : R6) : List Int := [r.a, r.b, r.c, r.d, r.e, r.f]
structure GoodR (r : R6) : Prop where
  a : 0 ≤ r.a ∧ r.a ≤ 7
  b : 0 ≤ r.b ∧ r.b ≤ 199
  c : 1 ≤ r.c ∧ r.c ≤ 200
  d : 0 ≤ r.d ∧ r.d ≤ 1000000000
  e : 1 ≤ r.e ∧ r.e ≤ 2000000000
  f : 0 ≤ r.f ∧ r.f ≤ 1000000
theorem GoodR.all {r : R6} (h : GoodR r) : ∀ n ∈ rowI r, 0 ≤ n ∧ n ≤ 2000000000 := fun n m => by
  obtain ⟨a, b, c, d, e, f⟩ := h
  rcases List.mem_cons.mp m with rfl | m
  · omega
  rcases List.mem_cons.mp m with rfl | m
  · omega
  rcases List.mem_cons.mp m with rfl | m
  · omega
  rcases List.mem_cons.mp m with rfl | m
  · omega
  rcases List.mem_cons.mp m with rfl | m
  · omega
  rw [List.mem_singleton.mp m]
  omega
theorem nm4' {n : Int} (h : 0 ≤ n ∧ n ≤ 2000000000) : Nm 4 n := ⟨h.1, by have : (2000000000 : Int) ≤ GRT := (by decide); omega, by have : n.toNat ≤ 2000000000 := (by omega); exact Nat.lt_of_le_of_lt this (by decide)⟩
/-- the numbers of an index -/
def numsI (s : Int) (rows : List R6) : List Int := s :: (rows.length : Int) :: rows.flatMap rowI
theorem flat_len (rows : List R6) : (rows.flatMap rowI).length = 6 * rows.length := by
  induction rows with
  | nil => rfl
  | cons r rows ih =>
    rw [List.flatMap_cons, List.length_append, ih, List.length_cons, show (rowI r).length = 6 from rfl]
    omega
structure GoodI (s : Int) (rows : List R6) : Prop where
  s : 0 ≤ s ∧ s ≤ 1000000000
  l : rows.length ≤ 1600
  r : ∀ r ∈ rows, GoodR r
theorem GoodI.nums {s : Int} {rows : List R6} (h : GoodI s rows) : (∀ n ∈ numsI s rows, Nm 4 n) ∧ (numsI s rows).length ≤ 9602 := by
  refine ⟨fun n m => ?_, ?_⟩
  · rcases List.mem_cons.mp m with rfl | m
    · exact nm4' (by have := h.s; omega)
    rcases List.mem_cons.mp m with rfl | m
    · exact nm4' (by have := h.l; omega)
    obtain ⟨r, hr, hn⟩ := List.mem_flatMap.mp m
    exact nm4' ((h.r r hr).all n hn)
  · show (rows.flatMap rowI).length + 1 + 1 ≤ _
    rw [flat_len]
    have := h.l
    omega
theorem GoodI.len {s : Int} {rows : List R6} (h : GoodI s rows) : (wrs (numsI s rows)).length ≤ 48010 := by
  have := wrs_len h.nums.1
  have := h.nums.2
  omega
theorem numbers_l {s : Int} {rows : List R6} (h : rows.length ≤ 1600) : l_index_numbers ⟨s, rows⟩ = .ok (numsI s rows) := by
  unfold l_index_numbers
  have main : ∀ (rows : List R6) (acc : List Int), acc.length + 6 * rows.length ≤ 100000 → forR rows acc (fun x40 (a39 : (List Int)) => guardR (a39.length + ([x40.a, x40.b, x40.c, x40.d, x40.e, x40.f] : List Int).length ≤ 1000000) <| (.ok (.nx (a39 ++ ([x40.a, x40.b, x40.c, x40.d, x40.e, x40.f] : List Int))) : Res (Fl (List Int) (List Int)))) = .ok (.nx (acc ++ rows.flatMap rowI)) := by
    intro rows
    induction rows with
    | nil => intro acc _; rw [List.flatMap_nil, List.append_nil]; rfl
    | cons r rows ih =>
      intro acc hl
      rw [List.length_cons] at hl
      show Res.bind (guardR _ _) _ = _
      rw [gpos (by show _ + 6 ≤ _; omega)]
      show forR rows (acc ++ rowI r) _ = _
      rw [ih _ (by rw [List.length_append, show (rowI r).length = 6 from rfl]; omega), List.flatMap_cons, List.append_assoc]
  show Res.bind (forR rows _ _) _ = _
  rw [main rows _ (by show 2 + _ ≤ _; omega)]
  rfl
/-! ## what is an index -/
def isRowD (d : D) : Bool := match d with
  | .tup [a, b, c, d, e, f] => isWhole a 0 7 && (isWhole b 0 199 && (isWhole c 1 200 && (isWhole d 0 1000000000 && (isWhole e 1 2000000000 && isWhole f 0 1000000))))
  | _ => false
theorem ite_and {a : Bool} {m : Res Bool} {b : Bool} (h : m = .ok b) : (if a = true then m else .ok false) = .ok (a && b) := by cases a <;> simp [h]
theorem is_row (d : D) : m_is_index_row d = .ok (isRowD d) := by
  cases d with
  | tup ds =>
    match ds with
    | [] => rfl
    | [_] => rfl
    | [_, _] => rfl
    | [_, _, _] => rfl
    | [_, _, _, _] => rfl
    | [_, _, _, _, _] => rfl
    | [a, b, c, d, e, f] =>
      unfold m_is_index_row
      rw [show (2 * 1000000000 : Int) = 2000000000 from rfl]
      show (if isWhole a 0 7 = true then (if isWhole b 0 199 = true then (if isWhole c 1 200 = true then (if isWhole d 0 1000000000 = true then (if isWhole e 1 2000000000 = true then Res.ok (isWhole f 0 1000000) else _) else _) else _) else _) else _) = _
      exact ite_and (ite_and (ite_and (ite_and (ite_and rfl))))
    | a :: b :: c :: d :: e :: f :: g :: r =>
      unfold m_is_index_row
      rw [if_pos (show isA "tuple" (.tup (a :: b :: c :: d :: e :: f :: g :: r)) = true from (by decide +kernel : isS "tuple" "tuple" = true))]
      have hc : (!decide (((a :: b :: c :: d :: e :: f :: g :: r).length : Int) = 6)) = true := by rw [decide_eq_false (by simp only [List.length_cons]; omega)]; rfl
      show Res.bind (Res.ok (a :: b :: c :: d :: e :: f :: g :: r)) _ = _
      dsimp only [Res.bind]
      rw [if_pos hc]
      rfl
  | _ => rfl
def isIdx (d : D) : Bool := match d with
  | .tup [s, .lst ds] => isWhole s 0 1000000000 && (decide (ds.length ≤ 1600) && ds.all isRowD)
  | _ => false
theorem is_idx (d : D) : m_is_index d = .ok (isIdx d) := by
  cases d with
  | tup ds =>
    match ds with
    | [] => rfl
    | [_] => rfl
    | [s, x] =>
      cases x with
      | lst ds =>
        show (if isWhole s 0 1000000000 = true then _ else _) = _
        refine ite_and (b := decide (ds.length ≤ 1600) && ds.all isRowD) ?_
        show (if (decide (1600 < (ds.length : Int))) = true then _ else _) = _
        by_cases c : ds.length ≤ 1600
        · rw [if_neg (by rw [decide_eq_false (by omega)]; decide), decide_eq_true c]
          show Res.bind (compR ds () _) _ = _
          rw [compR_map (g := isRowD) (by omega) fun x _ => by rw [is_row]; rfl]
          show Res.ok ((ds.map isRowD).all id) = _
          rw [List.all_map]
          rfl
        · rw [if_pos (decide_eq_true (by omega)), decide_eq_false c]
          rfl
      | _ => all_goals
        show (if isWhole s 0 1000000000 = true then _ else _) = _
        exact (ite_and (b := false) rfl).trans (by rw [Bool.and_false]; rfl)
    | a :: b :: c :: r =>
      unfold m_is_index
      rw [if_pos (show isA "tuple" (.tup (a :: b :: c :: r)) = true from (by decide +kernel : isS "tuple" "tuple" = true))]
      have hc : (!decide (((a :: b :: c :: r).length : Int) = 2)) = true := by rw [decide_eq_false (by simp only [List.length_cons]; omega)]; rfl
      show Res.bind (Res.ok (a :: b :: c :: r)) _ = _
      dsimp only [Res.bind]
      rw [if_pos hc]
      cases b <;> rfl
  | _ => rfl
theorem body_no {d : D} (h : isIdx d = false) : m_index_body d = .err ⟨"NoBody", []⟩ := by
  unfold m_index_body
  rw [is_idx, h]
  rfl
def idxD (s : Int) (rows : List R6) : D := .tup [.int s, .lst (rows.map enc)]
theorem isW {n lo hi' : Int} (h : lo ≤ n ∧ n ≤ hi') : isWhole (.int n) lo hi' = true := by
  show (decide (lo ≤ n) && decide (n ≤ hi')) = true
  rw [decide_eq_true h.1, decide_eq_true h.2]
  rfl
theorem good_row {r : R6} (h : GoodR r) : isRowD (enc r) = true := by
  show (isWhole (.int r.a) 0 7 && (isWhole (.int r.b) 0 199 && (isWhole (.int r.c) 1 200 && (isWhole (.int r.d) 0 1000000000 && (isWhole (.int r.e) 1 2000000000 && isWhole (.int r.f) 0 1000000))))) = true
  rw [isW h.a, isW h.b, isW h.c, isW h.d, isW h.e, isW h.f]
  rfl
theorem good_idx {s : Int} {rows : List R6} (h : GoodI s rows) : isIdx (idxD s rows) = true := by
  show (isWhole (.int s) 0 1000000000 && (decide ((rows.map (enc : R6 → D)).length ≤ 1600) && (rows.map (enc : R6 → D)).all isRowD)) = true
  rw [isW h.s, List.length_map, decide_eq_true h.l, List.all_map]
  refine List.all_eq_true.mpr fun r m => good_row (h.r r m)
theorem body_m {s : Int} {rows : List R6} (h : GoodI s rows) : m_index_body (idxD s rows) = .ok (wrs (numsI s rows)) := by
  unfold m_index_body
  rw [is_idx, good_idx h]
  have main : ∀ (rows : List R6) (acc : List Int), acc.length + 6 * rows.length ≤ 100000 → forR (rows.map (enc : R6 → D)) acc (fun x71 (a70 : (List Int)) => (asIs x71).bind fun l78 => guardR (a70.length + l78.length ≤ 1000000) <| (.ok (.nx (a70 ++ l78)) : Res (Fl (List Int) (List Int)))) = .ok (.nx (acc ++ rows.flatMap rowI)) := by
    intro rows
    induction rows with
    | nil => intro acc _; rw [List.flatMap_nil, List.append_nil]; rfl
    | cons r rows ih =>
      intro acc hl
      rw [List.length_cons] at hl
      show Res.bind (Res.bind (asIs (enc r)) _) _ = _
      rw [show asIs (enc r) = .ok (rowI r) from rfl]
      show Res.bind (guardR _ _) _ = _
      rw [gpos (by show _ + 6 ≤ _; omega)]
      show forR (rows.map enc) (acc ++ rowI r) _ = _
      rw [ih _ (by rw [List.length_append, show (rowI r).length = 6 from rfl]; omega), List.flatMap_cons, List.append_assoc]
  show Res.bind (forR (rows.map (enc : R6 → D)) ([s, ((rows.map (enc : R6 → D)).length : Int)] : List Int) _) _ = _
  rw [main rows _ (by have := h.l; show 2 + _ ≤ _; omega), List.length_map]
  show Res.bind (m_all_written (numsI s rows)).noErr _ = _
  rw [all_m h.nums.1 (by have := h.nums.2; omega)]
  rfl
/-! ## an index that is read -/
theorem row_rds {r : R6} (h : GoodR r) : Rds m_index_row_in (fun r : R6 => wrs (rowI r)) (fun r => enc r) r := fun pre s hz => by
  unfold m_index_row_in
  have e := compL_rds (f := fun a => m_Numbers__number a 0 (2 * 1000000000)) (w := fun n : Int => wr n.toNat) (v := fun n => n) (rowI r) (rngI 0 6) pre s rfl (fun n m => rds_num (h.all n m).1 (by have := (h.all n m).2; have : (2000000000 : Int) ≤ GRT := (by decide); omega) (h.all n m).1 (show n ≤ 2 * 1000000000 from (h.all n m).2)) hz
  show Res.bind (compR (rngI 0 6) (rdr (pre ++ (wrs (rowI r) ++ s)) pre.length) _) _ = _
  unfold compR guardR
  rw [if_pos (by rw [show (rngI 0 6).length = 6 from rfl]; decide)]
  refine (congrArg (Res.bind · _) e).trans ?_
  rw [List.map_id']
  rfl
theorem row_cut {r : R6} (h : GoodR r) : Cut m_index_row_in (wrs [r.a, r.b, r.c, r.d, r.e] ++ hi (r.f.toNat / 128)) := fun pre hz => by
  unfold m_index_row_in
  have hf := h.f
  have g : (2000000000 : Int) ≤ GRT := by decide
  have ha : ∀ n ∈ [r.a, r.b, r.c, r.d, r.e], 0 ≤ n ∧ n ≤ 2000000000 := fun n m => h.all n (by
    show n ∈ [r.a, r.b, r.c, r.d, r.e] ++ [r.f]
    exact List.mem_append_left _ m)
  have e := compL_cut (f := fun a => m_Numbers__number a 0 (2 * 1000000000)) (w := fun n : Int => wr n.toNat) (v := fun n => n) (cut_num (n := r.f) hf.1 (by omega)) [r.a, r.b, r.c, r.d, r.e] (rngI 0 6) pre (by show 5 < 6; decide) (fun n m => rds_num (ha n m).1 (by have := (ha n m).2; omega) (ha n m).1 (show n ≤ 2 * 1000000000 from (ha n m).2)) hz
  show Res.bind (compR (rngI 0 6) _ _) _ = _
  unfold compR guardR
  rw [if_pos (by rw [show (rngI 0 6).length = 6 from rfl]; decide)]
  refine (congrArg (Res.bind · _) e).trans ?_
  rfl
theorem wrs_rows (rows : List R6) : wrs (rows.flatMap rowI) = rows.flatMap fun r => wrs (rowI r) := by
  unfold wrs
  rw [List.flatMap_assoc]
theorem rows_no (rows : List R6) : noLs (rows.map enc) = true := by
  induction rows with
  | nil => rfl
  | cons r rows ih =>
    show (noL (enc r) && noLs (rows.map enc)) = true
    rw [ih]
    rfl
theorem index_rds {s : Int} {rows : List R6} (h : GoodI s rows) (x : List Int) (hz : (wrs (numsI s rows) ++ x).length ≤ 900000) : m_index_in (rdr (wrs (numsI s rows) ++ x) 0) = .ok (⟨s, rows.map enc⟩, rdr (wrs (numsI s rows) ++ x) (wrs (numsI s rows)).length) := by
  have g : (2000000000 : Int) ≤ GRT := by decide
  have hs := h.s
  have hl := h.l
  have e0 : wrs (numsI s rows) = wr s.toNat ++ (wr rows.length ++ wrs (rows.flatMap rowI)) := by
    unfold numsI
    rw [wrs_cons, wrs_cons]
    rfl
  have e1 : wrs (numsI s rows) ++ x = [] ++ (wr s.toNat ++ (wr rows.length ++ (wrs (rows.flatMap rowI) ++ x))) := by rw [e0, List.append_assoc, List.append_assoc]; rfl
  have e2 : wrs (numsI s rows) ++ x = wr s.toNat ++ (wr ((rows.length : Int)).toNat ++ (wrs (rows.flatMap rowI) ++ x)) := by rw [e1]; rfl
  have e3 : wrs (numsI s rows) ++ x = (wr s.toNat ++ wr rows.length) ++ (rows.flatMap (fun r => wrs (rowI r)) ++ x) := by rw [e1, wrs_rows, List.append_assoc]; rfl
  unfold m_index_in
  rw [e1] at hz
  have r1 := read_num (pre := []) (s := wr rows.length ++ (wrs (rows.flatMap rowI) ++ x)) (n := s) (k := 0) (lo := 0) (hi' := 1000000000) hz rfl hs.1 (by omega) hs.1 hs.2
  rw [← e1] at r1 hz
  rw [r1]
  rw [e2] at hz
  have r2 := read_num (pre := wr s.toNat) (s := wrs (rows.flatMap rowI) ++ x) (n := (rows.length : Int)) (k := 0 + (wr s.toNat).length) (lo := 0) (hi' := 1600) hz (Nat.zero_add _).symm (by omega) (by omega) (by omega) (by omega)
  rw [← e2] at r2 hz
  show Res.bind (m_Numbers__number _ 0 1600) _ = _
  rw [r2]
  show guardR _ _ = _
  unfold guardR
  rw [if_pos (by omega)]
  show Res.bind (compR (rngI 0 (rows.length : Int)) _ _) _ = _
  unfold compR guardR
  have lr : (rngI 0 (rows.length : Int)).length = rows.length := by rw [rngI_len']; omega
  rw [if_pos (by omega)]
  rw [e3] at hz
  have r3 := compL_rds (f := m_index_row_in) (w := fun r : R6 => wrs (rowI r)) (v := fun r => (enc r : D)) rows (rngI 0 (rows.length : Int)) (wr s.toNat ++ wr rows.length) x lr (fun r m => row_rds (h.r r m)) hz
  rw [← e3] at r3
  have ek : 0 + (wr s.toNat).length + (wr ((rows.length : Int)).toNat).length = (wr s.toNat ++ wr rows.length).length := by rw [List.length_append, Nat.zero_add]; rfl
  show Res.bind (compL _ (rdr _ (0 + (wr s.toNat).length + (wr ((rows.length : Int)).toNat).length)) _) _ = _
  rw [ek]
  refine (congrArg (Res.bind · _) r3).trans ?_
  show guardR (noLs ((rows.map (enc : R6 → D)).map enc) = true) _ = _
  unfold guardR
  rw [mapD, if_pos (rows_no rows)]
  show Res.ok (_, rdr _ _) = _
  rw [e0, wrs_rows, List.length_append, List.length_append, List.length_append, Nat.add_assoc]
theorem index_cut {s : Int} {rows : List R6} (h : GoodI s rows) : m_index_in (rdr ((wrs (numsI s rows)).take ((wrs (numsI s rows)).length - 1)) 0) = .err ⟨"NoBody", []⟩ := by
  have g : (2000000000 : Int) ≤ GRT := by decide
  have hs := h.s
  have hl := h.l
  have len := h.len
  rcases List.eq_nil_or_concat rows with rfl | ⟨init, r, rfl⟩
  · have ec := wrs_cut (ns := [s]) (n := 0)
    rw [show numsI s [] = [s] ++ [0] from rfl, ec]
    unfold m_index_in
    have e1 : wrs [s] ++ hi ((0 : Int).toNat / 128) = [] ++ (wr s.toNat ++ []) := by
      rw [wrs_cons, wrs_nil, show hi ((0 : Int).toNat / 128) = [] from hi0, List.append_nil]
      rfl
    have w1 := wr_len (n := s.toNat) (k := 4) (by have : s.toNat ≤ 1000000000 := (by omega); exact Nat.lt_of_le_of_lt this (by decide))
    have r1 := read_num (pre := []) (s := []) (n := s) (k := 0) (lo := 0) (hi' := 1000000000) (by simp only [List.length_append, List.length_nil]; omega) rfl hs.1 (by omega) hs.1 hs.2
    rw [e1, r1]
    have r2 := cut_nil (lo := 0) (hi' := 1600) (wr s.toNat) (by rw [List.append_nil]; omega)
    show Res.bind (m_Numbers__number (rdr ([] ++ (wr s.toNat ++ [])) (0 + (wr s.toNat).length)) 0 1600) _ = _
    rw [Nat.zero_add]
    refine (congrArg (Res.bind · _) r2).trans ?_
    rfl
  · have e0 : numsI s (init ++ [r]) = (s :: ((init ++ [r]).length : Int) :: (init.flatMap rowI ++ [r.a, r.b, r.c, r.d, r.e])) ++ [r.f] := by
      unfold numsI
      rw [List.flatMap_append, List.flatMap_cons, List.flatMap_nil, List.append_nil]
      show _ = s :: ((init ++ [r]).length : Int) :: ((init.flatMap rowI ++ [r.a, r.b, r.c, r.d, r.e]) ++ [r.f])
      rw [List.append_assoc]
      rfl
    have hr := h.r r (by simp)
    rw [List.concat_eq_append] at *
    rw [e0, wrs_cut]
    have lt : (wrs (s :: ((init ++ [r]).length : Int) :: (init.flatMap rowI ++ [r.a, r.b, r.c, r.d, r.e])) ++ hi (r.f.toNat / 128)).length ≤ 900000 := by
      rw [← wrs_cut, ← e0, List.length_take]
      omega
    generalize hc : wrs [r.a, r.b, r.c, r.d, r.e] ++ hi (r.f.toNat / 128) = c
    have e1 : wrs (s :: ((init ++ [r]).length : Int) :: (init.flatMap rowI ++ [r.a, r.b, r.c, r.d, r.e])) ++ hi (r.f.toNat / 128) = wr s.toNat ++ (wr (init ++ [r]).length ++ (wrs (init.flatMap rowI) ++ c)) := by
      rw [wrs_cons, wrs_cons, wrs_app, List.append_assoc, List.append_assoc, List.append_assoc, hc]
      rfl
    rw [e1] at lt ⊢
    have e2 : wr s.toNat ++ (wr (init ++ [r]).length ++ (wrs (init.flatMap rowI) ++ c)) = (wr s.toNat ++ wr (init ++ [r]).length) ++ (init.flatMap (fun r => wrs (rowI r)) ++ c) := by rw [wrs_rows, List.append_assoc]
    unfold m_index_in
    have r1 := read_num (pre := []) (s := wr (init ++ [r]).length ++ (wrs (init.flatMap rowI) ++ c)) (n := s) (k := 0) (lo := 0) (hi' := 1000000000) lt rfl hs.1 (by omega) hs.1 hs.2
    show Res.bind (m_Numbers__number (rdr ([] ++ (wr s.toNat ++ (wr (init ++ [r]).length ++ (wrs (init.flatMap rowI) ++ c)))) 0) 0 1000000000) _ = _
    rw [r1]
    have r2 := read_num (pre := wr s.toNat) (s := wrs (init.flatMap rowI) ++ c) (n := ((init ++ [r]).length : Int)) (k := 0 + (wr s.toNat).length) (lo := 0) (hi' := 1600) lt (Nat.zero_add _).symm (by omega) (by omega) (by omega) (by omega)
    show Res.bind (m_Numbers__number (rdr (wr s.toNat ++ (wr (((init ++ [r]).length : Int)).toNat ++ (wrs (init.flatMap rowI) ++ c))) (0 + (wr s.toNat).length)) 0 1600) _ = _
    rw [r2]
    show guardR _ _ = _
    unfold guardR
    rw [if_pos (by omega)]
    show Res.bind (compR (rngI 0 ((init ++ [r]).length : Int)) _ _) _ = _
    unfold compR guardR
    have lr : (rngI 0 ((init ++ [r]).length : Int)).length = (init ++ [r]).length := by rw [rngI_len']; omega
    rw [if_pos (by omega)]
    show Res.bind (compL _ (rdr (wr s.toNat ++ (wr (init ++ [r]).length ++ (wrs (init.flatMap rowI) ++ c))) (0 + (wr s.toNat).length + (wr (((init ++ [r]).length : Int)).toNat).length)) _) _ = _
    rw [e2] at lt ⊢
    have r3 := compL_cut (f := m_index_row_in) (w := fun r : R6 => wrs (rowI r)) (v := fun r => (enc r : D)) (c := c) (by rw [← hc]; exact row_cut hr) init (rngI 0 ((init ++ [r]).length : Int)) (wr s.toNat ++ wr (init ++ [r]).length) (by rw [lr, List.length_append, List.length_singleton]; omega) (fun x m => row_rds (h.r x (by simp [m]))) lt
    have ek : 0 + (wr s.toNat).length + (wr (((init ++ [r]).length : Int)).toNat).length = (wr s.toNat ++ wr (init ++ [r]).length).length := by rw [Nat.zero_add]; exact (List.length_append (as := wr s.toNat) (bs := wr (init ++ [r]).length)).symm
    rw [ek]
    refine (congrArg (Res.bind · _) r3).trans ?_
    rfl
theorem Ok.after' {S β : Type} {k : S → Res β} {s : S} {ψ : β → Prop} (h : Ok (k s) ψ) : Ok (afterR k (.nx s)) ψ := h
theorem is_bytes_row {l : List Int} (hl : l.length ≤ 1000000) (h : ∀ b ∈ l, Byt b) : m_is_bytes (enc l) = .ok true := by rw [is_bytes_ok (small_ints hl), bytes_ints h]
theorem idx_enc (s : Int) (rows : List R6) : (enc (⟨s, rows.map enc⟩ : Tp2 Int (List D)) : D) = idxD s rows := by
  show D.tup [.int s, .lst ((rows.map (enc : R6 → D)).map (enc : D → D))] = _
  rw [mapD]
  rfl
theorem read_m {s : Int} {rows : List R6} (h : GoodI s rows) : m_read_index (enc (wrs (numsI s rows))) = .ok ⟨s, rows.map enc⟩ := by
  have hl := h.len
  unfold m_read_index m_read_as__index_in__index_body
  rw [is_bytes_row (by omega) wrs_byt]
  have e := index_rds h [] (by rw [List.append_nil]; omega)
  rw [List.append_nil] at e
  show Res.bind (Res.bind (asD (List Int) (enc (wrs (numsI s rows)))) _) _ = _
  rw [asD_row]
  show Res.bind (Res.bind (m_index_in (rdr (wrs (numsI s rows)) 0)) _) _ = _
  rw [e]
  show Res.bind (Res.bind (m_index_body (enc (⟨s, rows.map enc⟩ : Tp2 Int (List D)))) _) _ = _
  rw [idx_enc, body_m h]
  show Res.bind (guardR (okEq (enc (wrs (numsI s rows))) (enc (wrs (numsI s rows)))) (if (!eqD (enc (wrs (numsI s rows))) (enc (wrs (numsI s rows)))) = true then _ else _)) _ = _
  rw [gpos (ok_rows _ _), eq_row]
  rfl
theorem read_more {s : Int} {rows : List R6} (h : GoodI s rows) : m_read_index (enc (wrs (numsI s rows) ++ [0])) = .err ⟨"NoBody", []⟩ := by
  have hl := h.len
  unfold m_read_index m_read_as__index_in__index_body
  have hl2 : (wrs (numsI s rows) ++ [0]).length ≤ 900000 := by rw [List.length_append, List.length_singleton]; omega
  rw [is_bytes_row (by omega) (byt_app wrs_byt fun b m => by rw [List.mem_singleton.mp m]; exact ⟨by decide, by decide⟩)]
  have e := index_rds h [0] hl2
  show Res.bind (Res.bind (asD (List Int) (enc (wrs (numsI s rows) ++ [0]))) _) _ = _
  rw [asD_row]
  show Res.bind (Res.bind (m_index_in (rdr (wrs (numsI s rows) ++ [0]) 0)) _) _ = _
  rw [e]
  show Res.bind (Res.bind (m_index_body (enc (⟨s, rows.map enc⟩ : Tp2 Int (List D)))) _) _ = _
  rw [idx_enc, body_m h]
  show Res.bind (guardR (okEq (enc (wrs (numsI s rows))) (enc (wrs (numsI s rows) ++ [0]))) (if (!eqD (enc (wrs (numsI s rows))) (enc (wrs (numsI s rows) ++ [0]))) = true then _ else _)) _ = _
  rw [gpos (ok_rows _ _), row_more]
  rfl
theorem read_less {s : Int} {rows : List R6} (h : GoodI s rows) : m_read_index (enc ((wrs (numsI s rows)).take ((wrs (numsI s rows)).length - 1))) = .err ⟨"NoBody", []⟩ := by
  have hl := h.len
  unfold m_read_index m_read_as__index_in__index_body
  rw [is_bytes_row (by rw [List.length_take]; omega) (fun b m => wrs_byt b (List.mem_of_mem_take m))]
  show Res.bind (Res.bind (asD (List Int) (enc ((wrs (numsI s rows)).take ((wrs (numsI s rows)).length - 1)))) _) _ = _
  rw [asD_row]
  show Res.bind (Res.bind (m_index_in (rdr _ 0)) _) _ = _
  rw [index_cut h]
  rfl
theorem read_odd {d : D} (hd : smallD d) (h : isBytes d = false) : m_read_index d = .err ⟨"NoBody", []⟩ := by
  unfold m_read_index m_read_as__index_in__index_body
  rw [is_bytes_ok hd, h]
  rfl
theorem refused_r {d : D} (h : m_read_index d = .err ⟨"NoBody", []⟩) : l_refused__read_index d = .ok true := by
  unfold l_refused__read_index
  rw [h]
  rfl
theorem refused_b {d : D} (h : m_index_body d = .err ⟨"NoBody", []⟩) : l_refused__index_body d = .ok true := by
  unfold l_refused__index_body
  rw [h]
  rfl
/-! ## what the law draws -/
theorem index_l {st : List Int} (h : Gd st) : Ok (l_index st) fun r => (GoodI r.1.a r.1.b ∧ r.1.b.length ≤ 39) ∧ r.2.length = 3 := by
  unfold l_index
  refine dg h (by decide) (bg (by decide)) fun n1 s1 a1 b1 h1 => ?_
  refine dg (gd3 h1) (by decide) (bg (by decide)) fun n2 s2 a2 b2 h2 => ?_
  refine dg (gd3 h2) (by decide) (bg (by decide)) fun n3 s3 a3 b3 h3 => ?_
  refine Ok.ixm a3 (by show n3 < 2; omega) fun x m => ?_
  have hx : 0 ≤ x ∧ x ≤ 39 := by
    rcases List.mem_cons.mp m with rfl | m
    · omega
    · rw [List.mem_singleton.mp m]; omega
  refine Ok.guard (by omega) ?_
  have ln : (rngI 0 x).length ≤ 39 := by rw [rngI_len']; omega
  generalize rngI 0 x = rn at ln
  rw [← List.map_id rn]
  refine Ok.bind (Ok.forM' (g := id) (fun xs (s : List Int × List R6) => (∀ r ∈ s.2, GoodR r) ∧ s.2.length + xs.length ≤ 39 ∧ s.1.length = 3) ?_ ⟨fun _ m => (nomatch m), by show 0 + _ ≤ _; omega, h3⟩) ?_
  · rintro y ys ⟨st, rows⟩ ⟨g1, g2, g3⟩
    have g1 : ∀ r ∈ rows, GoodR r := g1
    have g2 : rows.length + (ys.length + 1) ≤ 39 := g2
    have g3 : st.length = 3 := g3
    have two : ∀ {a b n : Int} {k : Int → Res (Fl (List Int × List R6) (Tp2 Int (List R6) × List Int))} {ψ : _ → Prop}, 0 ≤ n → n < 2 → (∀ z, z = a ∨ z = b → Ok (k z) ψ) → Ok ((ixR ([a, b] : List Int) n).bind k) ψ := fun h0 h1 hk => Ok.ixm h0 (by show _ < 2; exact h1) fun z m => hk z (by
      rcases List.mem_cons.mp m with rfl | m
      · exact .inl rfl
      · exact .inr (List.mem_singleton.mp m))
    refine dg (gd3 g3) (by decide) (bg (by decide)) fun m1 t1 c1 d1 k1 => two c1 d1 fun z1 hz1 => ?_
    refine dg (gd3 k1) (by omega) (bg (by omega)) fun m2 t2 c2 d2 k2 => ?_
    refine dg (gd3 k2) (by decide) (bg (by decide)) fun m3 t3 c3 d3 k3 => two c3 d3 fun z3 hz3 => ?_
    refine dg (gd3 k3) (by omega) (bg (by omega)) fun m4 t4 c4 d4 k4 => Ok.lt ?_
    refine dg (gd3 k4) (by decide) (bg (by decide)) fun m5 t5 c5 d5 k5 => two c5 d5 fun z5 hz5 => ?_
    refine dg (gd3 k5) (by omega) (bg (by omega)) fun m6 t6 c6 d6 k6 => ?_
    refine dg (gd3 k6) (by decide) (bg (by decide)) fun m7 t7 c7 d7 k7 => ?_
    refine dg (gd3 k7) (by decide) (bg (by decide)) fun m8 t8 c8 d8 k8 => ?_
    refine dg (gd3 k8) (by decide) (bg (by decide)) fun m9 t9 c9 d9 k9 => ?_
    refine Ok.guard (by show rows.length < _; omega) (Ok.pure ⟨_, rfl, fun r m => ?_, ?_, k9⟩)
    · rcases List.mem_append.mp m with m | m
      · exact g1 r m
      · rw [List.mem_singleton.mp m]
        exact ⟨by simp only; omega, by simp only; omega, by simp only; omega, by simp only; omega, by simp only; omega, by simp only; omega⟩
    · show (rows ++ [_]).length + ys.length ≤ 39
      rw [List.length_append, List.length_singleton]
      omega
  · rintro _ ⟨⟨st, rows⟩, rfl, g1, g2, g3⟩
    have g1 : ∀ r ∈ rows, GoodR r := g1
    have g2 : rows.length + 0 ≤ 39 := g2
    have g3 : st.length = 3 := g3
    refine Ok.after' ?_
    refine dg (gd3 g3) (by decide) (bg (by decide)) fun m1 t1 c1 d1 k1 => Ok.pure ⟨⟨⟨⟨c1, by simp only; omega⟩, by simp only; omega, g1⟩, by simp only; omega⟩, k1⟩
theorem row_bad {v : D} (k : Nat) (hk : k < 6) (h : isWhole v (([0, 0, 1, 0, 1, 0] : List Int).getD k 0) (([7, 199, 200, 1000000000, 2000000000, 1000000] : List Int).getD k 0) = false) : isRowD (.tup ((([(enc (1 : Int)), (enc (2 : Int)), (enc (3 : Int)), (enc (4 : Int)), (enc (5 : Int)), (enc (6 : Int))] : List D)).set k v)) = false := by
  match k, hk, h with
  | 0, _, h => show (isWhole v 0 7 && _) = false; rw [show isWhole v 0 7 = false from h]; rfl
  | 1, _, h => show (true && (isWhole v 0 199 && _)) = false; rw [show isWhole v 0 199 = false from h]; rfl
  | 2, _, h => show (true && (true && (isWhole v 1 200 && _))) = false; rw [show isWhole v 1 200 = false from h]; rfl
  | 3, _, h => show (true && (true && (true && (isWhole v 0 1000000000 && _)))) = false; rw [show isWhole v 0 1000000000 = false from h]; rfl
  | 4, _, h => show (true && (true && (true && (true && (isWhole v 1 2000000000 && _))))) = false; rw [show isWhole v 1 2000000000 = false from h]; rfl
  | 5, _, h => show (true && (true && (true && (true && (true && isWhole v 0 1000000))))) = false; rw [show isWhole v 0 1000000 = false from h]; rfl
theorem row_tail {R : List D} {s : List Int} (hR : isRowD (.tup R) = false) (hs : s.length = 3) : Ok ((l_digit s 8).bind fun x145 => (ixR ([(.tup (R.map enc) : D), (.tup (R.map enc) : D), (enc (⟨1, 2, 3, 4, 5⟩ : (Tp5 Int Int Int Int Int))), (enc (⟨1, 2, 3, 4, 5, 6, 7⟩ : (Tp7 Int Int Int Int Int Int Int))), (enc ([1, 2, 3, 4, 5, 6] : List Int)), (enc ()), (enc ("" : Str)), (.tup [] : D)] : List D) x145.1).bind fun x155 => .ok (x155, x145.2)) fun r => isRowD r.1 = false ∧ r.2.length = 3 := by
  refine dg (gd3 hs) (by decide) (bg (by decide)) fun n s' a b h => Ok.ixm a (by show n < 8; exact b) fun x m => Ok.pure ⟨?_, h⟩
  rw [mapD] at m
  simp only [List.mem_cons, List.not_mem_nil, or_false] at m
  rcases m with rfl | rfl | rfl | rfl | rfl | rfl | rfl | rfl
  · exact hR
  · exact hR
  all_goals rfl
theorem odd_num {most lo : Int} (h : 0 ≤ lo) (h1 : lo ≤ 1) (h2 : 1 ≤ most) : ∀ v ∈ ([(enc ((-1) : Int)), (enc ((most + 1) : Int)), (enc ()), (enc (decide (1 = 1))), (enc ("1" : Str)), (enc (⟨1⟩ : (Tp1 Int)))] : List D), isWhole v lo most = false := by
  intro v m
  simp only [List.mem_cons, List.not_mem_nil, or_false] at m
  rcases m with rfl | rfl | rfl | rfl | rfl | rfl
  · show (decide (lo ≤ -1) && _) = false
    rw [decide_eq_false (by omega)]; rfl
  · show (decide (lo ≤ most + 1) && decide (most + 1 ≤ most)) = false
    rw [decide_eq_false (p := most + 1 ≤ most) (by omega), Bool.and_false]
  all_goals rfl
theorem no_row_l {st : List Int} (h : Gd st) : Ok (l_no_row st) fun r => isRowD r.1 = false ∧ r.2.length = 3 := by
  unfold l_no_row
  refine dg h (by decide) (bg (by decide)) fun a s1 a0 a1 h1 => ?_
  have ha : a = 0 ∨ a = 1 ∨ a = 3 ∨ a = 5 ∨ a = 2 ∨ a = 4 := by omega
  rcases ha with rfl | rfl | rfl | rfl | rfl | rfl
  · refine Ok.ixs rfl (dg (gd3 h1) (by decide) (bg (by decide)) fun o s2 b0 b1 h2 => Ok.ixm b0 (by show o < 6; exact b1) fun v m => Ok.bindE rfl (Ok.bindE rfl (row_tail (row_bad 0 (by decide) ?_) h2)))
    exact odd_num (most := 7) (lo := 0) (by decide) (by decide) (by decide) v m
  · refine Ok.ixs rfl (dg (gd3 h1) (by decide) (bg (by decide)) fun o s2 b0 b1 h2 => Ok.ixm b0 (by show o < 6; exact b1) fun v m => Ok.bindE rfl (Ok.bindE rfl (row_tail (row_bad 1 (by decide) ?_) h2)))
    exact odd_num (most := 199) (lo := 0) (by decide) (by decide) (by decide) v m
  · refine Ok.ixs rfl (dg (gd3 h1) (by decide) (bg (by decide)) fun o s2 b0 b1 h2 => Ok.ixm b0 (by show o < 6; exact b1) fun v m => Ok.bindE rfl (Ok.bindE rfl (row_tail (row_bad 3 (by decide) ?_) h2)))
    exact odd_num (most := 1000000000) (lo := 0) (by decide) (by decide) (by decide) v m
  · refine Ok.ixs rfl (dg (gd3 h1) (by decide) (bg (by decide)) fun o s2 b0 b1 h2 => Ok.ixm b0 (by show o < 6; exact b1) fun v m => Ok.bindE rfl (Ok.bindE rfl (row_tail (row_bad 5 (by decide) ?_) h2)))
    exact odd_num (most := 1000000) (lo := 0) (by decide) (by decide) (by decide) v m
  · refine Ok.ixs rfl (dg (gd3 h1) (by decide) (bg (by decide)) fun o s2 b0 b1 h2 => Ok.ixm b0 (by show o < 6; exact b1) fun v m => Ok.bindE rfl ?_)
    refine Ok.bind (φ := fun r => isRowD (.tup r.1) = false ∧ r.2.length = 3) ?_ fun r hr => row_tail hr.1 hr.2
    refine Ok.bindE rfl (Ok.iteT rfl (Ok.ixs (x := v) rfl (dg (gd3 h2) (by decide) (bg (by decide)) fun n s3 c0 c1 h3 => Ok.ixm c0 (by show n < 2; exact c1) fun w mw => Ok.bindE rfl (Ok.pure ⟨?_, h3⟩))))
    refine row_bad 2 (by decide) ?_
    rcases List.mem_cons.mp mw with rfl | mw
    · rfl
    · rw [List.mem_singleton.mp mw]
      exact odd_num (most := 200) (lo := 1) (by decide) (by decide) (by decide) v m
  · refine Ok.ixs rfl (dg (gd3 h1) (by decide) (bg (by decide)) fun o s2 b0 b1 h2 => Ok.ixm b0 (by show o < 6; exact b1) fun v m => Ok.bindE rfl ?_)
    refine Ok.bind (φ := fun r => isRowD (.tup r.1) = false ∧ r.2.length = 3) ?_ fun r hr => row_tail hr.1 hr.2
    refine Ok.bindE rfl (Ok.iteT rfl (Ok.ixs (x := v) rfl (dg (gd3 h2) (by decide) (bg (by decide)) fun n s3 c0 c1 h3 => Ok.ixm c0 (by show n < 2; exact c1) fun w mw => Ok.bindE rfl (Ok.pure ⟨?_, h3⟩))))
    refine row_bad 4 (by decide) ?_
    rcases List.mem_cons.mp mw with rfl | mw
    · rfl
    · rw [List.mem_singleton.mp mw]
      exact odd_num (most := 2000000000) (lo := 1) (by decide) (by decide) (by decide) v m
theorem idx_seal {x : D} {rows : List R6} (h : isWhole x 0 1000000000 = false) : isIdx (.tup [x, .lst (rows.map enc)]) = false := by
  show (isWhole x 0 1000000000 && _) = false
  rw [h]; rfl
theorem no_index_l {st : List Int} {s : Int} {rows : List R6} (h : Gd st) (hl : rows.length ≤ 39) : Ok (l_no_index st ⟨s, rows⟩) fun r => isIdx r.1 = false ∧ r.2.length = 3 := by
  unfold l_no_index
  refine dg h (by decide) (bg (by decide)) fun a s1 a0 a1 h1 => ?_
  refine Ok.ite (fun _ => ?_) fun _ => Ok.ite (fun _ => ?_) fun _ => Ok.ite (fun _ => ?_) fun _ => ?_
  · refine dg (gd3 h1) (by decide) (bg (by decide)) fun n s2 b0 b1 h2 => Ok.ixm b0 (by show n < 7; exact b1) fun x m => Ok.pure ⟨?_, h2⟩
    simp only [List.mem_cons, List.not_mem_nil, or_false] at m
    rcases m with rfl | rfl | rfl | rfl | rfl | rfl | rfl <;> rfl
  · refine dg (gd3 h1) (by decide) (bg (by decide)) fun n s2 b0 b1 h2 => Ok.ixm b0 (by show n < 5; exact b1) fun x m => Ok.pure ⟨idx_seal ?_, h2⟩
    simp only [List.mem_cons, List.not_mem_nil, or_false] at m
    rcases m with rfl | rfl | rfl | rfl | rfl <;> rfl
  · refine Ok.guard (by decide) ?_
    refine dg (gd3 h1) (by decide) (bg (by decide)) fun n s2 b0 b1 h2 => Ok.ixm b0 (by show n < 5; exact b1) fun x m => Ok.pure ⟨?_, h2⟩
    simp only [List.mem_cons, List.not_mem_nil, or_false] at m
    rcases m with rfl | rfl | rfl | rfl | rfl
    · rfl
    · rfl
    · rfl
    · rfl
    · show (_ && (decide (((timesL [(⟨0, 0, 1, 0, 1, 0⟩ : R6)] 1601).map (enc : R6 → D)).length ≤ 1600) && _)) = false
      have : (timesL [(⟨0, 0, 1, 0, 1, 0⟩ : R6)] 1601).length = 1601 := by
        unfold timesL
        simp
      rw [List.length_map, this, decide_eq_false (by decide), Bool.false_and, Bool.and_false]
  · refine dg (gd3 h1) (by show 0 < (rows.length : Int) + 1; omega) (bg (by show ((rows.length : Int) + 1).natAbs < _; omega)) fun n s2 b0 b1 h2 => ?_
    refine Ok.bind (no_row_l (gd3 h2)) ?_
    rintro ⟨x, s3⟩ ⟨hx, h3⟩
    have l1 : (cutL rows none (some n)).length ≤ 39 := Nat.le_trans cutL_len hl
    have l2 : (cutL rows (some n) none).length ≤ 39 := Nat.le_trans cutL_len hl
    refine Ok.guard (by rw [List.length_map]; show (cutL rows none (some n)).length + 1 ≤ _; omega) (Ok.guard (by rw [List.length_append, List.length_map, List.length_map]; show (cutL rows none (some n)).length + 1 + (cutL rows (some n) none).length ≤ _; omega) (Ok.pure ⟨?_, h3⟩))
    show (_ && (_ && ((((cutL rows none (some n)).map (enc : R6 → D) ++ [x]) ++ (cutL rows (some n) none).map (enc : R6 → D)).map (enc : D → D)).all isRowD)) = false
    have hx : isRowD x = false := hx
    rw [mapD, List.all_append, List.all_append, List.all_cons, hx, Bool.false_and, Bool.and_false, Bool.false_and, Bool.and_false, Bool.and_false]
theorem eqOk_idx (s : Int) (rows : List R6) : eqOk 20 (idxD s rows) = true := by
  show (true && (eqOks 18 (rows.map (enc : R6 → D)) && true)) = true
  rw [eqOk_lst fun r _ => rfl]
  rfl
theorem tup_all (rows : List R6) : compR (rows.map (enc : R6 → D)) (() : Unit) (fun x284 (a288 : Unit) => .ok (some (isA "tuple" x284), ())) = .ok (List.replicate rows.length true, ()) ∨ 1000000 < rows.length := by
  rcases Nat.lt_or_ge 1000000 rows.length with h | h
  · exact .inr h
  · refine .inl ?_
    rw [compR_map (g := fun x => isA "tuple" x) (by rw [List.length_map]; omega) fun _ _ => rfl, List.map_map]
    congr 2
    rw [List.eq_replicate_iff]
    refine ⟨List.length_map .., fun b m => ?_⟩
    obtain ⟨r, _, e⟩ := List.mem_map.mp m
    rw [← e]
    exact (by decide +kernel : isS "tuple" "tuple" = true)
theorem all_rep : ∀ n : Nat, (List.replicate n true).all id = true
  | 0 => rfl
  | n + 1 => by rw [List.replicate_succ, List.all_cons, all_rep n]; rfl
theorem great_ok : ∀ rows : List R6, rows = (rngI 0 1600).map (fun x15 => (⟨(x15 % 8), (x15 % 100), (1 + (x15 % 90)), (x15 % 91), (1 + (x15 % 92)), (x15 % 120)⟩ : R6)) → GoodI 7 rows := fun rows e => by
  subst e
  refine ⟨by decide, by rw [List.length_map, rngI_len']; decide, fun r m => ?_⟩
  obtain ⟨x, _, rfl⟩ := List.mem_map.mp m
  exact ⟨by simp only; omega, by simp only; omega, by simp only; omega, by simp only; omega, by simp only; omega, by simp only; omega⟩
theorem law_ok (ns : List Int) (h : ns.length ≤ 63) : m_law ns = .ok true := by
  have q : Ok (m_law ns) fun r => r = true := by
    unfold m_law
    have l1 : (cutL ns none (some 8)).length ≤ 63 := Nat.le_trans cutL_len h
    refine Ok.bind (φ := fun r => r = .nx ()) ?_ ?_
    · refine Ok.bind (φ := fun _ => True) ?_ fun x _ => Ok.ite (fun _ => ?_) fun _ => Ok.pure rfl
      · unfold l_cell_at
        refine Ok.ite (fun c => Ok.ixm (by decide) (by have := of_decide_eq_true c; omega) fun x _ => Ok.pure trivial) fun _ => Ok.pure trivial
      · refine Ok.bindE (compR_map (g := fun x15 => (⟨(x15 % 8), (x15 % 100), (1 + (x15 % 90)), (x15 % 91), (1 + (x15 % 92)), (x15 % 120)⟩ : R6)) (by rw [rngI_len']; decide) fun _ _ => rfl) ?_
        obtain ⟨rows, e⟩ : ∃ rows : List R6, rows = (rngI 0 1600).map (fun x15 => (⟨(x15 % 8), (x15 % 100), (1 + (x15 % 90)), (x15 % 91), (1 + (x15 % 92)), (x15 % 120)⟩ : R6)) := ⟨_, rfl⟩
        have g := great_ok rows e
        rw [← e]
        have e1 := body_m g
        have e2 := read_m g
        have e3 := same (eqOk_idx 7 rows)
        show Ok ((m_index_body (idxD 7 rows)).noErr.bind _) _
        rw [e1]
        show Ok ((m_read_index (enc (wrs (numsI 7 rows)))).noErr.bind _) _
        rw [e2]
        show Ok (guardR (okEq (enc (⟨7, rows.map enc⟩ : Tp2 Int (List D))) (idxD 7 rows)) (if (!eqD (enc (⟨7, rows.map enc⟩ : Tp2 Int (List D))) (idxD 7 rows)) = true then _ else _)) _
        rw [idx_enc]
        exact Ok.guard e3.1 (Ok.iteF (by rw [e3.2]; rfl) (Ok.pure rfl))
    rintro _ rfl
    refine Ok.after' (Ok.guard (by show _ + 2 ≤ _; omega) ?_)
    refine Ok.bind (Ok.for (fun _ : Unit => True) (fun x _ _ _ => ?_) trivial) ?_
    · refine Ok.bind (index_l (st := [x]) (.inl rfl)) ?_
      rintro ⟨⟨s, rows⟩, st⟩ ⟨⟨g, hl⟩, h3⟩
      have g : GoodI s rows := g
      have hl : rows.length ≤ 39 := hl
      have h3 : st.length = 3 := h3
      refine Ok.bindE (numbers_l g.l) ?_
      refine Ok.bindE (all_l (ns := numsI s rows) g.nums.1 (by have := g.nums.2; omega)) ?_
      have e1 := body_m g
      have e2 := read_m g
      have e3 := same (eqOk_idx s rows)
      have e4 := refused_r (read_more g)
      have e5 := refused_r (read_less g)
      have hlen := g.len
      have e6 : isA "list" (enc (wrs (numsI s rows))) = true := (by decide +kernel : isS "list" "list" = true)
      have hb : ∀ b ∈ wrs (numsI s rows), Byt b := wrs_byt
      generalize wrs (numsI s rows) = due at e1 e2 e4 e5 e6 hlen hb
      refine Ok.bind (Ok.for (fun _ : Unit => True) (fun _ _ _ _ => ?_) trivial) ?_
      · refine Ok.bindE (a := due) (show (m_index_body (idxD s rows)).noErr = _ by rw [e1]; rfl) ?_
        refine Ok.iteT e6 (Ok.guard (ok_rows _ _) (Ok.iteF (by rw [eq_row]; rfl) ?_))
        refine Ok.guard e3.1 (Ok.iteF (by show (!eqD (idxD s rows) (idxD s rows)) = false; rw [e3.2]; rfl) ?_)
        refine Ok.bindE (a := (⟨s, rows.map enc⟩ : Tp2 Int (List D))) (show (m_read_index (enc due)).noErr = _ by rw [e2]; rfl) ?_
        show Ok (guardR (okEq (enc (⟨s, rows.map enc⟩ : Tp2 Int (List D))) (idxD s rows)) (if (!eqD (enc (⟨s, rows.map enc⟩ : Tp2 Int (List D))) (idxD s rows)) = true then _ else _)) _
        rw [idx_enc]
        refine Ok.guard e3.1 (Ok.iteF (by rw [e3.2]; rfl) ?_)
        refine Ok.iteT ((by decide +kernel : isS "tuple" "tuple" = true)) (Ok.iteT ((by decide +kernel : isS "list" "list" = true)) ?_)
        refine Ok.guard (ok_rows _ _) (Ok.iteF (by rw [eq_row]; rfl) ?_)
        rcases tup_all rows with et | et
        · refine Ok.bindE et ?_
          refine Ok.iteT (all_rep _) (Ok.guard (by show (rows.map (enc : R6 → D)).length < _; rw [List.length_map]; omega) (Ok.guard (by omega) ?_))
          refine Ok.bindE e4 (Ok.iteT rfl ?_)
          rw [cut_most]
          exact Ok.bindE e5 (Ok.iteT rfl (Ok.pure ⟨_, rfl, trivial⟩))
        · omega
      · rintro _ ⟨_, rfl, _⟩
        refine Ok.after' ?_
        refine Ok.bind (no_index_l (gd3 h3) hl) ?_
        rintro ⟨d, s2⟩ ⟨hd, h4⟩
        refine Ok.bindE (refused_b (body_no hd)) (Ok.iteT rfl ?_)
        refine dg (gd3 h4) (by decide) (bg (by decide)) fun n s3 a0 a1 h5 => Ok.ixm a0 (by show n < 7; exact a1) fun x m => ?_
        have hx : smallD x ∧ isBytes x = false := by
          simp only [List.mem_cons, List.not_mem_nil, or_false] at m
          rcases m with rfl | rfl | rfl | rfl | rfl | rfl | rfl
          · exact ⟨trivial, rfl⟩
          · exact ⟨trivial, rfl⟩
          · exact ⟨trivial, rfl⟩
          · exact ⟨trivial, rfl⟩
          · exact ⟨trivial, rfl⟩
          · exact ⟨by show 1 ≤ 1000000; decide, rfl⟩
          · exact ⟨by show 1 ≤ 1000000; decide, rfl⟩
        exact Ok.bindE (refused_r (read_odd hx.1 hx.2)) (Ok.iteT rfl (Ok.pure ⟨_, rfl, trivial⟩))
    · rintro _ ⟨_, rfl, _⟩
      exact Ok.pure rfl
  obtain ⟨a, e, rfl⟩ := q
  exact e
end A

set_option Elab.async false
set_option linter.all false
set_option maxRecDepth 100000
set_option maxHeartbeats 4000000
namespace A
open PySem PySem.Spec PyProof.Rows L2 Y
open Y.Enc (enc)
theorem all_mk {l : PySem.W.OpenLaw} {w : World} {K : PySem.W.Frag} {h : Heap} {mg : Str → Option Value} {fa : Addr} (X : K.In h) (G : h.Ns mainGlobals mg) (hfa : mg "law" = some (.ref fa))
    {C_Numbers : Addr}
    (kca_Numbers : PySem.W.nsIn K mainGlobals "Numbers" = some (some (.ref C_Numbers)))
    (kcpg_Numbers : PySem.W.plainGet K C_Numbers Str.empty = true)
    (kchd_Numbers : PySem.W.hasDictIn K C_Numbers = true)
    (kcpo_Numbers : PySem.W.plainOver K C_Numbers = true)
    (kcsa_Numbers : PySem.W.findIn K (.ref C_Numbers) "__setattr__" = some (some (.builtin "object.__setattr__")))
    (kcha_Numbers : PySem.W.findIn K (.ref C_Numbers) "__class__" = some (some (.builtin "object.__class__")))
    (kchm_Numbers : PySem.W.mroIn K C_Numbers (.type "object") = some true)
    (kcty_Numbers : PySem.W.typeIn K (.ref C_Numbers) = some (.type "type"))
    (kcis_Numbers : PySem.W.isClsIn K C_Numbers = true)
    (kcself_Numbers : PySem.W.subIn K (.ref C_Numbers) (.ref C_Numbers) = some true)
    (kctbool_Numbers : PySem.W.subIn K (.ref C_Numbers) (.type "bool") = some false)
    (kctint_Numbers : PySem.W.subIn K (.ref C_Numbers) (.type "int") = some false)
    (kctstr_Numbers : PySem.W.subIn K (.ref C_Numbers) (.type "str") = some false)
    (kctlist_Numbers : PySem.W.subIn K (.ref C_Numbers) (.type "list") = some false)
    (kcttuple_Numbers : PySem.W.subIn K (.ref C_Numbers) (.type "tuple") = some false)
    (kctdict_Numbers : PySem.W.subIn K (.ref C_Numbers) (.type "dict") = some false)
    (kcmk_Numbers : PySem.W.makesIn K C_Numbers = true)
    (kckp_Numbers : PySem.W.keepIn K (.ref C_Numbers) = true)
    (n_Numbers_row : PySem.W.findIn K (.ref C_Numbers) "row" = some none)
    (n_Numbers_at : PySem.W.findIn K (.ref C_Numbers) "at" = some none)
    {f_is_whole : Addr} {od_is_whole an_is_whole : Option Addr} {sl_is_whole : Array (Option Value)} {oc_is_whole kV_is_whole dc_is_whole pm_is_whole cd_is_whole ct_is_whole : Value}
    (a_is_whole : PySem.W.nsIn K mainGlobals "is_whole" = some (some (.ref f_is_whole))) (l_is_whole : K.lookup f_is_whole = some ⟨oc_is_whole, od_is_whole, .func (PySem.W.fnOf "is_whole" "is_whole" (defArgs s_is_whole) (defBody s_is_whole) (defScope s_is_whole) .none kV_is_whole dc_is_whole pm_is_whole an_is_whole cd_is_whole ct_is_whole), sl_is_whole⟩) (c_is_whole : PySem.W.codeIn K cd_is_whole "is_whole" = true) (k_is_whole : PySem.W.keepIn K (.ref f_is_whole) = true)
    {f_is_bytes : Addr} {od_is_bytes an_is_bytes : Option Addr} {sl_is_bytes : Array (Option Value)} {oc_is_bytes kV_is_bytes dc_is_bytes pm_is_bytes cd_is_bytes ct_is_bytes : Value}
    (a_is_bytes : PySem.W.nsIn K mainGlobals "is_bytes" = some (some (.ref f_is_bytes))) (l_is_bytes : K.lookup f_is_bytes = some ⟨oc_is_bytes, od_is_bytes, .func (PySem.W.fnOf "is_bytes" "is_bytes" (defArgs s_is_bytes) (defBody s_is_bytes) (defScope s_is_bytes) .none kV_is_bytes dc_is_bytes pm_is_bytes an_is_bytes cd_is_bytes ct_is_bytes), sl_is_bytes⟩) (c_is_bytes : PySem.W.codeIn K cd_is_bytes "is_bytes" = true) (k_is_bytes : PySem.W.keepIn K (.ref f_is_bytes) = true)
    {f_written : Addr} {od_written an_written : Option Addr} {sl_written : Array (Option Value)} {oc_written kV_written dc_written pm_written cd_written ct_written : Value}
    (a_written : PySem.W.nsIn K mainGlobals "written" = some (some (.ref f_written))) (l_written : K.lookup f_written = some ⟨oc_written, od_written, .func (PySem.W.fnOf "written" "written" (defArgs s_written) (defBody s_written) (defScope s_written) .none kV_written dc_written pm_written an_written cd_written ct_written), sl_written⟩) (c_written : PySem.W.codeIn K cd_written "written" = true) (k_written : PySem.W.keepIn K (.ref f_written) = true)
    {f_number_at : Addr} {od_number_at an_number_at : Option Addr} {sl_number_at : Array (Option Value)} {oc_number_at kV_number_at dc_number_at pm_number_at cd_number_at ct_number_at : Value}
    (a_number_at : PySem.W.nsIn K mainGlobals "number_at" = some (some (.ref f_number_at))) (l_number_at : K.lookup f_number_at = some ⟨oc_number_at, od_number_at, .func (PySem.W.fnOf "number_at" "number_at" (defArgs s_number_at) (defBody s_number_at) (defScope s_number_at) .none kV_number_at dc_number_at pm_number_at an_number_at cd_number_at ct_number_at), sl_number_at⟩) (c_number_at : PySem.W.codeIn K cd_number_at "number_at" = true) (k_number_at : PySem.W.keepIn K (.ref f_number_at) = true)
    {f_all_written : Addr} {od_all_written an_all_written : Option Addr} {sl_all_written : Array (Option Value)} {oc_all_written kV_all_written dc_all_written pm_all_written cd_all_written ct_all_written : Value}
    (a_all_written : PySem.W.nsIn K mainGlobals "all_written" = some (some (.ref f_all_written))) (l_all_written : K.lookup f_all_written = some ⟨oc_all_written, od_all_written, .func (PySem.W.fnOf "all_written" "all_written" (defArgs s_all_written) (defBody s_all_written) (defScope s_all_written) .none kV_all_written dc_all_written pm_all_written an_all_written cd_all_written ct_all_written), sl_all_written⟩) (c_all_written : PySem.W.codeIn K cd_all_written "all_written" = true) (k_all_written : PySem.W.keepIn K (.ref f_all_written) = true)
    {f_is_index_row : Addr} {od_is_index_row an_is_index_row : Option Addr} {sl_is_index_row : Array (Option Value)} {oc_is_index_row kV_is_index_row dc_is_index_row pm_is_index_row cd_is_index_row ct_is_index_row : Value}
    (a_is_index_row : PySem.W.nsIn K mainGlobals "is_index_row" = some (some (.ref f_is_index_row))) (l_is_index_row : K.lookup f_is_index_row = some ⟨oc_is_index_row, od_is_index_row, .func (PySem.W.fnOf "is_index_row" "is_index_row" (defArgs s_is_index_row) (defBody s_is_index_row) (defScope s_is_index_row) .none kV_is_index_row dc_is_index_row pm_is_index_row an_is_index_row cd_is_index_row ct_is_index_row), sl_is_index_row⟩) (c_is_index_row : PySem.W.codeIn K cd_is_index_row "is_index_row" = true) (k_is_index_row : PySem.W.keepIn K (.ref f_is_index_row) = true)
    {f_is_index : Addr} {od_is_index an_is_index : Option Addr} {sl_is_index : Array (Option Value)} {oc_is_index kV_is_index dc_is_index pm_is_index cd_is_index ct_is_index : Value}
    (a_is_index : PySem.W.nsIn K mainGlobals "is_index" = some (some (.ref f_is_index))) (l_is_index : K.lookup f_is_index = some ⟨oc_is_index, od_is_index, .func (PySem.W.fnOf "is_index" "is_index" (defArgs s_is_index) (defBody s_is_index) (defScope s_is_index) .none kV_is_index dc_is_index pm_is_index an_is_index cd_is_index ct_is_index), sl_is_index⟩) (c_is_index : PySem.W.codeIn K cd_is_index "is_index" = true) (k_is_index : PySem.W.keepIn K (.ref f_is_index) = true)
    {f_index_body : Addr} {od_index_body an_index_body : Option Addr} {sl_index_body : Array (Option Value)} {oc_index_body kV_index_body dc_index_body pm_index_body cd_index_body ct_index_body : Value}
    (a_index_body : PySem.W.nsIn K mainGlobals "index_body" = some (some (.ref f_index_body))) (l_index_body : K.lookup f_index_body = some ⟨oc_index_body, od_index_body, .func (PySem.W.fnOf "index_body" "index_body" (defArgs s_index_body) (defBody s_index_body) (defScope s_index_body) .none kV_index_body dc_index_body pm_index_body an_index_body cd_index_body ct_index_body), sl_index_body⟩) (c_index_body : PySem.W.codeIn K cd_index_body "index_body" = true) (k_index_body : PySem.W.keepIn K (.ref f_index_body) = true)
    {f_index_row_in : Addr} {od_index_row_in an_index_row_in : Option Addr} {sl_index_row_in : Array (Option Value)} {oc_index_row_in kV_index_row_in dc_index_row_in pm_index_row_in cd_index_row_in ct_index_row_in : Value}
    (a_index_row_in : PySem.W.nsIn K mainGlobals "index_row_in" = some (some (.ref f_index_row_in))) (l_index_row_in : K.lookup f_index_row_in = some ⟨oc_index_row_in, od_index_row_in, .func (PySem.W.fnOf "index_row_in" "index_row_in" (defArgs s_index_row_in) (defBody s_index_row_in) (defScope s_index_row_in) .none kV_index_row_in dc_index_row_in pm_index_row_in an_index_row_in cd_index_row_in ct_index_row_in), sl_index_row_in⟩) (c_index_row_in : PySem.W.codeIn K cd_index_row_in "index_row_in" = true) (k_index_row_in : PySem.W.keepIn K (.ref f_index_row_in) = true)
    {f_index_in : Addr} {od_index_in an_index_in : Option Addr} {sl_index_in : Array (Option Value)} {oc_index_in kV_index_in dc_index_in pm_index_in cd_index_in ct_index_in : Value}
    (a_index_in : PySem.W.nsIn K mainGlobals "index_in" = some (some (.ref f_index_in))) (l_index_in : K.lookup f_index_in = some ⟨oc_index_in, od_index_in, .func (PySem.W.fnOf "index_in" "index_in" (defArgs s_index_in) (defBody s_index_in) (defScope s_index_in) .none kV_index_in dc_index_in pm_index_in an_index_in cd_index_in ct_index_in), sl_index_in⟩) (c_index_in : PySem.W.codeIn K cd_index_in "index_in" = true) (k_index_in : PySem.W.keepIn K (.ref f_index_in) = true)
    {f_read_as : Addr} {od_read_as an_read_as : Option Addr} {sl_read_as : Array (Option Value)} {oc_read_as kV_read_as dc_read_as pm_read_as cd_read_as ct_read_as : Value}
    (a_read_as : PySem.W.nsIn K mainGlobals "read_as" = some (some (.ref f_read_as))) (l_read_as : K.lookup f_read_as = some ⟨oc_read_as, od_read_as, .func (PySem.W.fnOf "read_as" "read_as" (defArgs s_read_as__index_in__index_body) (defBody s_read_as__index_in__index_body) (defScope s_read_as__index_in__index_body) .none kV_read_as dc_read_as pm_read_as an_read_as cd_read_as ct_read_as), sl_read_as⟩) (c_read_as : PySem.W.codeIn K cd_read_as "read_as" = true) (k_read_as : PySem.W.keepIn K (.ref f_read_as) = true)
    {f_read_index : Addr} {od_read_index an_read_index : Option Addr} {sl_read_index : Array (Option Value)} {oc_read_index kV_read_index dc_read_index pm_read_index cd_read_index ct_read_index : Value}
    (a_read_index : PySem.W.nsIn K mainGlobals "read_index" = some (some (.ref f_read_index))) (l_read_index : K.lookup f_read_index = some ⟨oc_read_index, od_read_index, .func (PySem.W.fnOf "read_index" "read_index" (defArgs s_read_index) (defBody s_read_index) (defScope s_read_index) .none kV_read_index dc_read_index pm_read_index an_read_index cd_read_index ct_read_index), sl_read_index⟩) (c_read_index : PySem.W.codeIn K cd_read_index "read_index" = true) (k_read_index : PySem.W.keepIn K (.ref f_read_index) = true)
    {f__law_cell_at : Addr} {od__law_cell_at an__law_cell_at : Option Addr} {sl__law_cell_at : Array (Option Value)} {oc__law_cell_at kV__law_cell_at dc__law_cell_at pm__law_cell_at cd__law_cell_at ct__law_cell_at : Value}
    (a__law_cell_at : PySem.W.nsIn K mainGlobals "_law_cell_at" = some (some (.ref f__law_cell_at))) (l__law_cell_at : K.lookup f__law_cell_at = some ⟨oc__law_cell_at, od__law_cell_at, .func (PySem.W.fnOf "_law_cell_at" "_law_cell_at" (defArgs s__law_cell_at) (defBody s__law_cell_at) (defScope s__law_cell_at) .none kV__law_cell_at dc__law_cell_at pm__law_cell_at an__law_cell_at cd__law_cell_at ct__law_cell_at), sl__law_cell_at⟩) (c__law_cell_at : PySem.W.codeIn K cd__law_cell_at "_law_cell_at" = true) (k__law_cell_at : PySem.W.keepIn K (.ref f__law_cell_at) = true)
    {f__law_digit : Addr} {od__law_digit an__law_digit : Option Addr} {sl__law_digit : Array (Option Value)} {oc__law_digit kV__law_digit dc__law_digit pm__law_digit cd__law_digit ct__law_digit : Value}
    (a__law_digit : PySem.W.nsIn K mainGlobals "_law_digit" = some (some (.ref f__law_digit))) (l__law_digit : K.lookup f__law_digit = some ⟨oc__law_digit, od__law_digit, .func (PySem.W.fnOf "_law_digit" "_law_digit" (defArgs s__law_digit) (defBody s__law_digit) (defScope s__law_digit) .none kV__law_digit dc__law_digit pm__law_digit an__law_digit cd__law_digit ct__law_digit), sl__law_digit⟩) (c__law_digit : PySem.W.codeIn K cd__law_digit "_law_digit" = true) (k__law_digit : PySem.W.keepIn K (.ref f__law_digit) = true)
    {f__law_figures : Addr} {od__law_figures an__law_figures : Option Addr} {sl__law_figures : Array (Option Value)} {oc__law_figures kV__law_figures dc__law_figures pm__law_figures cd__law_figures ct__law_figures : Value}
    (a__law_figures : PySem.W.nsIn K mainGlobals "_law_figures" = some (some (.ref f__law_figures))) (l__law_figures : K.lookup f__law_figures = some ⟨oc__law_figures, od__law_figures, .func (PySem.W.fnOf "_law_figures" "_law_figures" (defArgs s__law_figures) (defBody s__law_figures) (defScope s__law_figures) .none kV__law_figures dc__law_figures pm__law_figures an__law_figures cd__law_figures ct__law_figures), sl__law_figures⟩) (c__law_figures : PySem.W.codeIn K cd__law_figures "_law_figures" = true) (k__law_figures : PySem.W.keepIn K (.ref f__law_figures) = true)
    {f__law_index_numbers : Addr} {od__law_index_numbers an__law_index_numbers : Option Addr} {sl__law_index_numbers : Array (Option Value)} {oc__law_index_numbers kV__law_index_numbers dc__law_index_numbers pm__law_index_numbers cd__law_index_numbers ct__law_index_numbers : Value}
    (a__law_index_numbers : PySem.W.nsIn K mainGlobals "_law_index_numbers" = some (some (.ref f__law_index_numbers))) (l__law_index_numbers : K.lookup f__law_index_numbers = some ⟨oc__law_index_numbers, od__law_index_numbers, .func (PySem.W.fnOf "_law_index_numbers" "_law_index_numbers" (defArgs s__law_index_numbers) (defBody s__law_index_numbers) (defScope s__law_index_numbers) .none kV__law_index_numbers dc__law_index_numbers pm__law_index_numbers an__law_index_numbers cd__law_index_numbers ct__law_index_numbers), sl__law_index_numbers⟩) (c__law_index_numbers : PySem.W.codeIn K cd__law_index_numbers "_law_index_numbers" = true) (k__law_index_numbers : PySem.W.keepIn K (.ref f__law_index_numbers) = true)
    {f__law_all_figures : Addr} {od__law_all_figures an__law_all_figures : Option Addr} {sl__law_all_figures : Array (Option Value)} {oc__law_all_figures kV__law_all_figures dc__law_all_figures pm__law_all_figures cd__law_all_figures ct__law_all_figures : Value}
    (a__law_all_figures : PySem.W.nsIn K mainGlobals "_law_all_figures" = some (some (.ref f__law_all_figures))) (l__law_all_figures : K.lookup f__law_all_figures = some ⟨oc__law_all_figures, od__law_all_figures, .func (PySem.W.fnOf "_law_all_figures" "_law_all_figures" (defArgs s__law_all_figures) (defBody s__law_all_figures) (defScope s__law_all_figures) .none kV__law_all_figures dc__law_all_figures pm__law_all_figures an__law_all_figures cd__law_all_figures ct__law_all_figures), sl__law_all_figures⟩) (c__law_all_figures : PySem.W.codeIn K cd__law_all_figures "_law_all_figures" = true) (k__law_all_figures : PySem.W.keepIn K (.ref f__law_all_figures) = true)
    {f__law_refused : Addr} {od__law_refused an__law_refused : Option Addr} {sl__law_refused : Array (Option Value)} {oc__law_refused kV__law_refused dc__law_refused pm__law_refused cd__law_refused ct__law_refused : Value}
    (a__law_refused : PySem.W.nsIn K mainGlobals "_law_refused" = some (some (.ref f__law_refused))) (l__law_refused : K.lookup f__law_refused = some ⟨oc__law_refused, od__law_refused, .func (PySem.W.fnOf "_law_refused" "_law_refused" (defArgs s__law_refused__read_index) (defBody s__law_refused__read_index) (defScope s__law_refused__read_index) .none kV__law_refused dc__law_refused pm__law_refused an__law_refused cd__law_refused ct__law_refused), sl__law_refused⟩) (c__law_refused : PySem.W.codeIn K cd__law_refused "_law_refused" = true) (k__law_refused : PySem.W.keepIn K (.ref f__law_refused) = true)
    {f__law_index : Addr} {od__law_index an__law_index : Option Addr} {sl__law_index : Array (Option Value)} {oc__law_index kV__law_index dc__law_index pm__law_index cd__law_index ct__law_index : Value}
    (a__law_index : PySem.W.nsIn K mainGlobals "_law_index" = some (some (.ref f__law_index))) (l__law_index : K.lookup f__law_index = some ⟨oc__law_index, od__law_index, .func (PySem.W.fnOf "_law_index" "_law_index" (defArgs s__law_index) (defBody s__law_index) (defScope s__law_index) .none kV__law_index dc__law_index pm__law_index an__law_index cd__law_index ct__law_index), sl__law_index⟩) (c__law_index : PySem.W.codeIn K cd__law_index "_law_index" = true) (k__law_index : PySem.W.keepIn K (.ref f__law_index) = true)
    {f__law_no_row : Addr} {od__law_no_row an__law_no_row : Option Addr} {sl__law_no_row : Array (Option Value)} {oc__law_no_row kV__law_no_row dc__law_no_row pm__law_no_row cd__law_no_row ct__law_no_row : Value}
    (a__law_no_row : PySem.W.nsIn K mainGlobals "_law_no_row" = some (some (.ref f__law_no_row))) (l__law_no_row : K.lookup f__law_no_row = some ⟨oc__law_no_row, od__law_no_row, .func (PySem.W.fnOf "_law_no_row" "_law_no_row" (defArgs s__law_no_row) (defBody s__law_no_row) (defScope s__law_no_row) .none kV__law_no_row dc__law_no_row pm__law_no_row an__law_no_row cd__law_no_row ct__law_no_row), sl__law_no_row⟩) (c__law_no_row : PySem.W.codeIn K cd__law_no_row "_law_no_row" = true) (k__law_no_row : PySem.W.keepIn K (.ref f__law_no_row) = true)
    {f__law_no_index : Addr} {od__law_no_index an__law_no_index : Option Addr} {sl__law_no_index : Array (Option Value)} {oc__law_no_index kV__law_no_index dc__law_no_index pm__law_no_index cd__law_no_index ct__law_no_index : Value}
    (a__law_no_index : PySem.W.nsIn K mainGlobals "_law_no_index" = some (some (.ref f__law_no_index))) (l__law_no_index : K.lookup f__law_no_index = some ⟨oc__law_no_index, od__law_no_index, .func (PySem.W.fnOf "_law_no_index" "_law_no_index" (defArgs s__law_no_index) (defBody s__law_no_index) (defScope s__law_no_index) .none kV__law_no_index dc__law_no_index pm__law_no_index an__law_no_index cd__law_no_index ct__law_no_index), sl__law_no_index⟩) (c__law_no_index : PySem.W.codeIn K cd__law_no_index "_law_no_index" = true) (k__law_no_index : PySem.W.keepIn K (.ref f__law_no_index) = true)
    {f_law : Addr} {od_law an_law : Option Addr} {sl_law : Array (Option Value)} {oc_law kV_law dc_law pm_law cd_law ct_law : Value}
    (a_law : PySem.W.nsIn K mainGlobals "law" = some (some (.ref f_law))) (l_law : K.lookup f_law = some ⟨oc_law, od_law, .func (PySem.W.fnOf "law" "law" (defArgs s_law) (defBody s_law) (defScope s_law) .none kV_law dc_law pm_law an_law cd_law ct_law), sl_law⟩) (c_law : PySem.W.codeIn K cd_law "law" = true) (k_law : PySem.W.keepIn K (.ref f_law) = true)
    {f_Numbers____init__ : Addr} {od_Numbers____init__ an_Numbers____init__ : Option Addr} {sl_Numbers____init__ : Array (Option Value)} {oc_Numbers____init__ kV_Numbers____init__ dc_Numbers____init__ pm_Numbers____init__ cd_Numbers____init__ ct_Numbers____init__ : Value}
    (a_Numbers____init__ : PySem.W.findIn K (.ref C_Numbers) "__init__" = some (some (.ref f_Numbers____init__))) (fn_Numbers____init__ : PySem.W.isFn K (.ref f_Numbers____init__) = true) (l_Numbers____init__ : K.lookup f_Numbers____init__ = some ⟨oc_Numbers____init__, od_Numbers____init__, .func (PySem.W.fnOf "__init__" "Numbers.__init__" (defArgs s_Numbers____init__) (defBody s_Numbers____init__) (defScope s_Numbers____init__) .none kV_Numbers____init__ dc_Numbers____init__ pm_Numbers____init__ an_Numbers____init__ cd_Numbers____init__ ct_Numbers____init__), sl_Numbers____init__⟩) (c_Numbers____init__ : PySem.W.codeIn K cd_Numbers____init__ "Numbers.__init__" = true) (k_Numbers____init__ : PySem.W.keepIn K (.ref f_Numbers____init__) = true)
    {f_Numbers__number : Addr} {od_Numbers__number an_Numbers__number : Option Addr} {sl_Numbers__number : Array (Option Value)} {oc_Numbers__number kV_Numbers__number dc_Numbers__number pm_Numbers__number cd_Numbers__number ct_Numbers__number : Value}
    (a_Numbers__number : PySem.W.findIn K (.ref C_Numbers) "number" = some (some (.ref f_Numbers__number))) (fn_Numbers__number : PySem.W.isFn K (.ref f_Numbers__number) = true) (l_Numbers__number : K.lookup f_Numbers__number = some ⟨oc_Numbers__number, od_Numbers__number, .func (PySem.W.fnOf "number" "Numbers.number" (defArgs s_Numbers__number) (defBody s_Numbers__number) (defScope s_Numbers__number) .none kV_Numbers__number dc_Numbers__number pm_Numbers__number an_Numbers__number cd_Numbers__number ct_Numbers__number), sl_Numbers__number⟩) (c_Numbers__number : PySem.W.codeIn K cd_Numbers__number "Numbers.number" = true) (k_Numbers__number : PySem.W.keepIn K (.ref f_Numbers__number) = true)
    {C_NoNumber : Addr}
    (xca_NoNumber : PySem.W.nsIn K mainGlobals "NoNumber" = some (some (.ref C_NoNumber)))
    (xchg_NoNumber : PySem.W.findIn K (.ref C_NoNumber) "__getattribute__" = some (some (.builtin "BaseException.__getattribute__")))
    (xchk_NoNumber : PySem.W.findIn K (.ref C_NoNumber) "__getattr__" = some none)
    (xchs_NoNumber : PySem.W.subIn K (.ref C_NoNumber) (.type "BaseException") = some true)
    (xchd_NoNumber : PySem.W.hasDictIn K C_NoNumber = true)
    (xcha_NoNumber : PySem.W.findIn K (.ref C_NoNumber) "__class__" = some (some (.builtin "object.__class__")))
    (xchm_NoNumber : PySem.W.mroIn K C_NoNumber (.type "object") = some true)
    (xcty_NoNumber : PySem.W.typeIn K (.ref C_NoNumber) = some (.type "type"))
    (xckp_NoNumber : PySem.W.keepIn K (.ref C_NoNumber) = true)
    (xcve_NoNumber : PySem.W.subIn K (.ref C_NoNumber) (.type "ValueError") = some true)
    (xcis_NoNumber : PySem.W.isClsIn K C_NoNumber = true)
    (xcself_NoNumber : PySem.W.subIn K (.ref C_NoNumber) (.ref C_NoNumber) = some true)
    (xcex_NoNumber : PySem.W.excIn K C_NoNumber [.type "ValueError", .type "Exception", .type "BaseException", .type "object"] "ValueError.__new__" = true)
    {C_NoBody : Addr}
    (xca_NoBody : PySem.W.nsIn K mainGlobals "NoBody" = some (some (.ref C_NoBody)))
    (xchg_NoBody : PySem.W.findIn K (.ref C_NoBody) "__getattribute__" = some (some (.builtin "BaseException.__getattribute__")))
    (xchk_NoBody : PySem.W.findIn K (.ref C_NoBody) "__getattr__" = some none)
    (xchs_NoBody : PySem.W.subIn K (.ref C_NoBody) (.type "BaseException") = some true)
    (xchd_NoBody : PySem.W.hasDictIn K C_NoBody = true)
    (xcha_NoBody : PySem.W.findIn K (.ref C_NoBody) "__class__" = some (some (.builtin "object.__class__")))
    (xchm_NoBody : PySem.W.mroIn K C_NoBody (.type "object") = some true)
    (xcty_NoBody : PySem.W.typeIn K (.ref C_NoBody) = some (.type "type"))
    (xckp_NoBody : PySem.W.keepIn K (.ref C_NoBody) = true)
    (xcve_NoBody : PySem.W.subIn K (.ref C_NoBody) (.type "ValueError") = some true)
    (xcis_NoBody : PySem.W.isClsIn K C_NoBody = true)
    (xcself_NoBody : PySem.W.subIn K (.ref C_NoBody) (.ref C_NoBody) = some true)
    (xcex_NoBody : PySem.W.excIn K C_NoBody [.type "ValueError", .type "Exception", .type "BaseException", .type "object"] "ValueError.__new__" = true)
    {C_ScrollError : Addr}
    (xca_ScrollError : PySem.W.nsIn K mainGlobals "ScrollError" = some (some (.ref C_ScrollError)))
    (xchg_ScrollError : PySem.W.findIn K (.ref C_ScrollError) "__getattribute__" = some (some (.builtin "BaseException.__getattribute__")))
    (xchk_ScrollError : PySem.W.findIn K (.ref C_ScrollError) "__getattr__" = some none)
    (xchs_ScrollError : PySem.W.subIn K (.ref C_ScrollError) (.type "BaseException") = some true)
    (xchd_ScrollError : PySem.W.hasDictIn K C_ScrollError = true)
    (xcha_ScrollError : PySem.W.findIn K (.ref C_ScrollError) "__class__" = some (some (.builtin "object.__class__")))
    (xchm_ScrollError : PySem.W.mroIn K C_ScrollError (.type "object") = some true)
    (xcty_ScrollError : PySem.W.typeIn K (.ref C_ScrollError) = some (.type "type"))
    (xckp_ScrollError : PySem.W.keepIn K (.ref C_ScrollError) = true)
    (xcve_ScrollError : PySem.W.subIn K (.ref C_ScrollError) (.type "ValueError") = some true)
    (xcis_ScrollError : PySem.W.isClsIn K C_ScrollError = true)
    (xcself_ScrollError : PySem.W.subIn K (.ref C_ScrollError) (.ref C_ScrollError) = some true)
    (xcex_ScrollError : PySem.W.excIn K C_ScrollError [.type "ValueError", .type "Exception", .type "BaseException", .type "object"] "ValueError.__new__" = true)
    {C_NoBytes : Addr}
    (xca_NoBytes : PySem.W.nsIn K mainGlobals "NoBytes" = some (some (.ref C_NoBytes)))
    (xchg_NoBytes : PySem.W.findIn K (.ref C_NoBytes) "__getattribute__" = some (some (.builtin "BaseException.__getattribute__")))
    (xchk_NoBytes : PySem.W.findIn K (.ref C_NoBytes) "__getattr__" = some none)
    (xchs_NoBytes : PySem.W.subIn K (.ref C_NoBytes) (.type "BaseException") = some true)
    (xchd_NoBytes : PySem.W.hasDictIn K C_NoBytes = true)
    (xcha_NoBytes : PySem.W.findIn K (.ref C_NoBytes) "__class__" = some (some (.builtin "object.__class__")))
    (xchm_NoBytes : PySem.W.mroIn K C_NoBytes (.type "object") = some true)
    (xcty_NoBytes : PySem.W.typeIn K (.ref C_NoBytes) = some (.type "type"))
    (xckp_NoBytes : PySem.W.keepIn K (.ref C_NoBytes) = true)
    (xcve_NoBytes : PySem.W.subIn K (.ref C_NoBytes) (.type "ValueError") = some true)
    (xcis_NoBytes : PySem.W.isClsIn K C_NoBytes = true)
    (xcself_NoBytes : PySem.W.subIn K (.ref C_NoBytes) (.ref C_NoBytes) = some true)
    (xcex_NoBytes : PySem.W.excIn K C_NoBytes [.type "ValueError", .type "Exception", .type "BaseException", .type "object"] "ValueError.__new__" = true)
    {C_NoLeaf : Addr}
    (xca_NoLeaf : PySem.W.nsIn K mainGlobals "NoLeaf" = some (some (.ref C_NoLeaf)))
    (xchg_NoLeaf : PySem.W.findIn K (.ref C_NoLeaf) "__getattribute__" = some (some (.builtin "BaseException.__getattribute__")))
    (xchk_NoLeaf : PySem.W.findIn K (.ref C_NoLeaf) "__getattr__" = some none)
    (xchs_NoLeaf : PySem.W.subIn K (.ref C_NoLeaf) (.type "BaseException") = some true)
    (xchd_NoLeaf : PySem.W.hasDictIn K C_NoLeaf = true)
    (xcha_NoLeaf : PySem.W.findIn K (.ref C_NoLeaf) "__class__" = some (some (.builtin "object.__class__")))
    (xchm_NoLeaf : PySem.W.mroIn K C_NoLeaf (.type "object") = some true)
    (xcty_NoLeaf : PySem.W.typeIn K (.ref C_NoLeaf) = some (.type "type"))
    (xckp_NoLeaf : PySem.W.keepIn K (.ref C_NoLeaf) = true)
    (xcve_NoLeaf : PySem.W.subIn K (.ref C_NoLeaf) (.type "ValueError") = some true)
    (xcis_NoLeaf : PySem.W.isClsIn K C_NoLeaf = true)
    (xcself_NoLeaf : PySem.W.subIn K (.ref C_NoLeaf) (.ref C_NoLeaf) = some true)
    (xcex_NoLeaf : PySem.W.excIn K C_NoLeaf [.type "ValueError", .type "Exception", .type "BaseException", .type "object"] "ValueError.__new__" = true)
    {tkC_GREATEST : Tok} (cg_GREATEST : PySem.W.nsIn K mainGlobals "GREATEST" = some (some (.int 1000000000000000000000000000000000000000000000000000000000000 tkC_GREATEST)))
    (p_NoBody_NoBody : PySem.W.subIn K (.ref C_NoBody) (.ref C_NoBody) = some true)
    (p_NoBody_NoBytes : PySem.W.subIn K (.ref C_NoBody) (.ref C_NoBytes) = some false)
    (p_NoBody_NoLeaf : PySem.W.subIn K (.ref C_NoBody) (.ref C_NoLeaf) = some false)
    (p_NoBody_NoNumber : PySem.W.subIn K (.ref C_NoBody) (.ref C_NoNumber) = some false)
    (xhn : PySem.W.specialIn K (.builtin "object.__class__") "__get__" = some (some (.builtin "getset_descriptor.__get__"))) (xht : PySem.W.takesIn K (.builtin "object.__class__") = some true)
    (z_isinstance : PySem.W.nsIn K mainGlobals "isinstance" = some none)
    (z_int : PySem.W.nsIn K mainGlobals "int" = some none)
    (z_bool : PySem.W.nsIn K mainGlobals "bool" = some none)
    (z_list : PySem.W.nsIn K mainGlobals "list" = some none)
    (z_all : PySem.W.nsIn K mainGlobals "all" = some none)
    (z_len : PySem.W.nsIn K mainGlobals "len" = some none)
    (z_tuple : PySem.W.nsIn K mainGlobals "tuple" = some none)
    (z_range : PySem.W.nsIn K mainGlobals "range" = some none)
    : ∃ fd : FuncData, (∀ (s : Shared) (v : Value), BindsTo s fd ⟨[v], []⟩ [("_law_script", v)]) ∧ ∀ base : Heap, K.In base → base.Ns mainGlobals mg → FnOk l.prog w K mg base CX0 8 fa fd ["_law_script"] (spTop K) := by
  have e := hfa.symm.trans (PySem.W.mg_of X G a_law)
  cases e
  have F_is_whole := fun_mk (st := s_is_whole) l_is_whole c_is_whole k_is_whole
  have b_is_whole := F_is_whole.binds (ps := ["thing", "low", "high"]) fun _ _ _ _ _ _ us hl => match us, hl with | [_, _, _], _ => rfl
  have g_is_whole := PySem.W.mg_of X G a_is_whole
  have F_is_bytes := fun_mk (st := s_is_bytes) l_is_bytes c_is_bytes k_is_bytes
  have b_is_bytes := F_is_bytes.binds (ps := ["thing"]) fun _ _ _ _ _ _ us hl => match us, hl with | [_], _ => rfl
  have g_is_bytes := PySem.W.mg_of X G a_is_bytes
  have F_written := fun_mk (st := s_written) l_written c_written k_written
  have b_written := F_written.binds (ps := ["number"]) fun _ _ _ _ _ _ us hl => match us, hl with | [_], _ => rfl
  have g_written := PySem.W.mg_of X G a_written
  have F_number_at := fun_mk (st := s_number_at) l_number_at c_number_at k_number_at
  have b_number_at := F_number_at.binds (ps := ["row", "at"]) fun _ _ _ _ _ _ us hl => match us, hl with | [_, _], _ => rfl
  have g_number_at := PySem.W.mg_of X G a_number_at
  have F_all_written := fun_mk (st := s_all_written) l_all_written c_all_written k_all_written
  have b_all_written := F_all_written.binds (ps := ["numbers"]) fun _ _ _ _ _ _ us hl => match us, hl with | [_], _ => rfl
  have g_all_written := PySem.W.mg_of X G a_all_written
  have F_is_index_row := fun_mk (st := s_is_index_row) l_is_index_row c_is_index_row k_is_index_row
  have b_is_index_row := F_is_index_row.binds (ps := ["thing"]) fun _ _ _ _ _ _ us hl => match us, hl with | [_], _ => rfl
  have g_is_index_row := PySem.W.mg_of X G a_is_index_row
  have F_is_index := fun_mk (st := s_is_index) l_is_index c_is_index k_is_index
  have b_is_index := F_is_index.binds (ps := ["thing"]) fun _ _ _ _ _ _ us hl => match us, hl with | [_], _ => rfl
  have g_is_index := PySem.W.mg_of X G a_is_index
  have F_index_body := fun_mk (st := s_index_body) l_index_body c_index_body k_index_body
  have b_index_body := F_index_body.binds (ps := ["index"]) fun _ _ _ _ _ _ us hl => match us, hl with | [_], _ => rfl
  have g_index_body := PySem.W.mg_of X G a_index_body
  have F_index_row_in := fun_mk (st := s_index_row_in) l_index_row_in c_index_row_in k_index_row_in
  have b_index_row_in := F_index_row_in.binds (ps := ["numbers"]) fun _ _ _ _ _ _ us hl => match us, hl with | [_], _ => rfl
  have g_index_row_in := PySem.W.mg_of X G a_index_row_in
  have F_index_in := fun_mk (st := s_index_in) l_index_in c_index_in k_index_in
  have b_index_in := F_index_in.binds (ps := ["numbers"]) fun _ _ _ _ _ _ us hl => match us, hl with | [_], _ => rfl
  have g_index_in := PySem.W.mg_of X G a_index_in
  have F_read_as := fun_mk (st := s_read_as__index_in__index_body) l_read_as c_read_as k_read_as
  have b_read_as := F_read_as.binds (ps := ["body", "thing_in", "body_of"]) fun _ _ _ _ _ _ us hl => match us, hl with | [_, _, _], _ => rfl
  have g_read_as := PySem.W.mg_of X G a_read_as
  have F_read_index := fun_mk (st := s_read_index) l_read_index c_read_index k_read_index
  have b_read_index := F_read_index.binds (ps := ["body"]) fun _ _ _ _ _ _ us hl => match us, hl with | [_], _ => rfl
  have g_read_index := PySem.W.mg_of X G a_read_index
  have F__law_cell_at := fun_mk (st := s__law_cell_at) l__law_cell_at c__law_cell_at k__law_cell_at
  have b__law_cell_at := F__law_cell_at.binds (ps := ["_law_script", "_law_k"]) fun _ _ _ _ _ _ us hl => match us, hl with | [_, _], _ => rfl
  have g__law_cell_at := PySem.W.mg_of X G a__law_cell_at
  have F__law_digit := fun_mk (st := s__law_digit) l__law_digit c__law_digit k__law_digit
  have b__law_digit := F__law_digit.binds (ps := ["_law_state", "_law_base"]) fun _ _ _ _ _ _ us hl => match us, hl with | [_, _], _ => rfl
  have g__law_digit := PySem.W.mg_of X G a__law_digit
  have F__law_figures := fun_mk (st := s__law_figures) l__law_figures c__law_figures k__law_figures
  have b__law_figures := F__law_figures.binds (ps := ["_law_number"]) fun _ _ _ _ _ _ us hl => match us, hl with | [_], _ => rfl
  have g__law_figures := PySem.W.mg_of X G a__law_figures
  have F__law_index_numbers := fun_mk (st := s__law_index_numbers) l__law_index_numbers c__law_index_numbers k__law_index_numbers
  have b__law_index_numbers := F__law_index_numbers.binds (ps := ["_law_index_here"]) fun _ _ _ _ _ _ us hl => match us, hl with | [_], _ => rfl
  have g__law_index_numbers := PySem.W.mg_of X G a__law_index_numbers
  have F__law_all_figures := fun_mk (st := s__law_all_figures) l__law_all_figures c__law_all_figures k__law_all_figures
  have b__law_all_figures := F__law_all_figures.binds (ps := ["_law_numbers"]) fun _ _ _ _ _ _ us hl => match us, hl with | [_], _ => rfl
  have g__law_all_figures := PySem.W.mg_of X G a__law_all_figures
  have F__law_refused := fun_mk (st := s__law_refused__read_index) l__law_refused c__law_refused k__law_refused
  have b__law_refused := F__law_refused.binds (ps := ["_law_ask", "_law_thing"]) fun _ _ _ _ _ _ us hl => match us, hl with | [_, _], _ => rfl
  have g__law_refused := PySem.W.mg_of X G a__law_refused
  have F__law_index := fun_mk (st := s__law_index) l__law_index c__law_index k__law_index
  have b__law_index := F__law_index.binds (ps := ["_law_state"]) fun _ _ _ _ _ _ us hl => match us, hl with | [_], _ => rfl
  have g__law_index := PySem.W.mg_of X G a__law_index
  have F__law_no_row := fun_mk (st := s__law_no_row) l__law_no_row c__law_no_row k__law_no_row
  have b__law_no_row := F__law_no_row.binds (ps := ["_law_state"]) fun _ _ _ _ _ _ us hl => match us, hl with | [_], _ => rfl
  have g__law_no_row := PySem.W.mg_of X G a__law_no_row
  have F__law_no_index := fun_mk (st := s__law_no_index) l__law_no_index c__law_no_index k__law_no_index
  have b__law_no_index := F__law_no_index.binds (ps := ["_law_state", "_law_index_here"]) fun _ _ _ _ _ _ us hl => match us, hl with | [_, _], _ => rfl
  have g__law_no_index := PySem.W.mg_of X G a__law_no_index
  have F_law := fun_mk (st := s_law) l_law c_law k_law
  have b_law := F_law.binds (ps := ["_law_script"]) fun _ _ _ _ _ _ us hl => match us, hl with | [_], _ => rfl
  have g_law := PySem.W.mg_of X G a_law
  have F_Numbers____init__ := fun_mk (st := s_Numbers____init__) l_Numbers____init__ c_Numbers____init__ k_Numbers____init__
  have b_Numbers____init__ := F_Numbers____init__.binds (ps := ["self", "row"]) fun _ _ _ _ _ _ us hl => match us, hl with | [_, _], _ => rfl
  have F_Numbers__number := fun_mk (st := s_Numbers__number) l_Numbers__number c_Numbers__number k_Numbers__number
  have b_Numbers__number := F_Numbers__number.binds (ps := ["self", "low", "high"]) fun _ _ _ _ _ _ us hl => match us, hl with | [_, _, _], _ => rfl
  have T_Numbers : KI K mg "Numbers" C_Numbers := ⟨⟨kca_Numbers, ⟨kcpg_Numbers, kchd_Numbers, kcpo_Numbers, kcsa_Numbers⟩, kcha_Numbers, xhn, xht, kchm_Numbers, bt_of kctbool_Numbers kctint_Numbers kctstr_Numbers kctlist_Numbers kcttuple_Numbers kctdict_Numbers⟩, PySem.W.mg_of X G kca_Numbers, kcty_Numbers, kcis_Numbers, kcself_Numbers⟩
  have M_Numbers : L2.Mk K C_Numbers f_Numbers____init__ := ⟨kcmk_Numbers, a_Numbers____init__, fn_Numbers____init__, kckp_Numbers⟩
  have lo_Numbers : LaysOk K C_Numbers ["row", "at"] := ⟨n_Numbers_row, ⟨n_Numbers_at, trivial⟩⟩
  have bi_Numbers := b_Numbers____init__
  have F_read_as__index_in__index_body := F_read_as
  have b_read_as__index_in__index_body := b_read_as
  have g_read_as__index_in__index_body := g_read_as
  have k_read_as__index_in__index_body := k_read_as
  have F__law_refused__read_index := F__law_refused
  have b__law_refused__read_index := b__law_refused
  have g__law_refused__read_index := g__law_refused
  have k__law_refused__read_index := k__law_refused
  have F__law_refused__index_body := F__law_refused
  have b__law_refused__index_body := b__law_refused
  have g__law_refused__index_body := g__law_refused
  have k__law_refused__index_body := k__law_refused
  have T_NoNumber : ExcR K mg "NoNumber" C_NoNumber := ⟨⟨PySem.W.mg_of X G xca_NoNumber, ⟨xchg_NoNumber, xchk_NoNumber, xchs_NoNumber, xchd_NoNumber, xcha_NoNumber, xhn, xht, xchm_NoNumber⟩, xcty_NoNumber, xckp_NoNumber, xcve_NoNumber, xcis_NoNumber, xcself_NoNumber⟩, xcex_NoNumber⟩
  have T_NoBody : ExcR K mg "NoBody" C_NoBody := ⟨⟨PySem.W.mg_of X G xca_NoBody, ⟨xchg_NoBody, xchk_NoBody, xchs_NoBody, xchd_NoBody, xcha_NoBody, xhn, xht, xchm_NoBody⟩, xcty_NoBody, xckp_NoBody, xcve_NoBody, xcis_NoBody, xcself_NoBody⟩, xcex_NoBody⟩
  have T_ScrollError : ExcR K mg "ScrollError" C_ScrollError := ⟨⟨PySem.W.mg_of X G xca_ScrollError, ⟨xchg_ScrollError, xchk_ScrollError, xchs_ScrollError, xchd_ScrollError, xcha_ScrollError, xhn, xht, xchm_ScrollError⟩, xcty_ScrollError, xckp_ScrollError, xcve_ScrollError, xcis_ScrollError, xcself_ScrollError⟩, xcex_ScrollError⟩
  have T_NoBytes : ExcR K mg "NoBytes" C_NoBytes := ⟨⟨PySem.W.mg_of X G xca_NoBytes, ⟨xchg_NoBytes, xchk_NoBytes, xchs_NoBytes, xchd_NoBytes, xcha_NoBytes, xhn, xht, xchm_NoBytes⟩, xcty_NoBytes, xckp_NoBytes, xcve_NoBytes, xcis_NoBytes, xcself_NoBytes⟩, xcex_NoBytes⟩
  have T_NoLeaf : ExcR K mg "NoLeaf" C_NoLeaf := ⟨⟨PySem.W.mg_of X G xca_NoLeaf, ⟨xchg_NoLeaf, xchk_NoLeaf, xchs_NoLeaf, xchd_NoLeaf, xcha_NoLeaf, xhn, xht, xchm_NoLeaf⟩, xcty_NoLeaf, xckp_NoLeaf, xcve_NoLeaf, xcis_NoLeaf, xcself_NoLeaf⟩, xcex_NoLeaf⟩
  have c_GREATEST : CI mg "GREATEST" 1000000000000000000000000000000000000000000000000000000000000 := ⟨⟨_, PySem.W.mg_of X G cg_GREATEST⟩⟩
  have bI_isinstance := PySem.W.mg_none_of X G z_isinstance
  have bI_int := PySem.W.mg_none_of X G z_int
  have bI_bool := PySem.W.mg_none_of X G z_bool
  have bI_list := PySem.W.mg_none_of X G z_list
  have bI_all := PySem.W.mg_none_of X G z_all
  have bI_len := PySem.W.mg_none_of X G z_len
  have bI_tuple := PySem.W.mg_none_of X G z_tuple
  have bI_range := PySem.W.mg_none_of X G z_range
  refine ⟨_, fun s v => (.of_eq rfl : BindsTo s (PySem.W.fnOf "law" "law" (defArgs s_law) (defBody s_law) (defScope s_law) .none kV_law dc_law pm_law an_law cd_law ct_law) ⟨[v], []⟩ [("_law_script", v)]), fun base _ _ => ?_⟩
  have G_Numbers____init__ := ok_Numbers____init__ (Pr := l.prog) (wo := w) (base := base) (mg := mg) F_Numbers____init__
  have Gi_Numbers := G_Numbers____init__
  have G_is_whole := ok_is_whole (Pr := l.prog) (wo := w) (base := base) (mg := mg) F_is_whole bI_isinstance bI_int bI_bool
  have G_number_at := ok_number_at (Pr := l.prog) (wo := w) (base := base) (mg := mg) F_number_at c_GREATEST bI_len
  have G__law_cell_at := ok__law_cell_at (Pr := l.prog) (wo := w) (base := base) (mg := mg) F__law_cell_at bI_len
  have G__law_digit := ok__law_digit (Pr := l.prog) (wo := w) (base := base) (mg := mg) F__law_digit bI_len
  have G__law_figures := ok__law_figures (Pr := l.prog) (wo := w) (base := base) (mg := mg) F__law_figures
  have G__law_index_numbers := ok__law_index_numbers (Pr := l.prog) (wo := w) (base := base) (mg := mg) F__law_index_numbers bI_len bI_list
  have G_is_bytes := ok_is_bytes (Pr := l.prog) (wo := w) (base := base) (mg := mg) F_is_bytes g_is_whole k_is_whole b_is_whole G_is_whole bI_isinstance bI_list bI_all
  have G_written := ok_written (Pr := l.prog) (wo := w) (base := base) (mg := mg) F_written c_GREATEST T_NoNumber g_is_whole k_is_whole b_is_whole G_is_whole
  have G_is_index_row := ok_is_index_row (Pr := l.prog) (wo := w) (base := base) (mg := mg) F_is_index_row g_is_whole k_is_whole b_is_whole G_is_whole bI_isinstance bI_tuple bI_len
  have G__law_all_figures := ok__law_all_figures (Pr := l.prog) (wo := w) (base := base) (mg := mg) F__law_all_figures g__law_figures k__law_figures b__law_figures G__law_figures
  have G__law_index := ok__law_index (Pr := l.prog) (wo := w) (base := base) (mg := mg) F__law_index g__law_digit k__law_digit b__law_digit G__law_digit bI_range
  have G__law_no_row := ok__law_no_row (Pr := l.prog) (wo := w) (base := base) (mg := mg) F__law_no_row g__law_digit k__law_digit b__law_digit G__law_digit bI_tuple
  have G_Numbers__number := ok_Numbers__number (Pr := l.prog) (wo := w) (base := base) (mg := mg) F_Numbers__number T_NoBody T_Numbers n_Numbers_row n_Numbers_at g_number_at k_number_at b_number_at G_number_at
  have L_Numbers__number : MAlt l.prog w K mg base (L2.CX l.prog w) 2 "number" C_Numbers (sp_Numbers__number K mg C_Numbers) := ⟨_, _, _, T_Numbers.c, ⟨a_Numbers__number, fn_Numbers__number, k_Numbers__number⟩, G_Numbers__number, b_Numbers__number⟩
  have G_all_written := ok_all_written (Pr := l.prog) (wo := w) (base := base) (mg := mg) F_all_written g_written k_written b_written G_written
  have G_is_index := ok_is_index (Pr := l.prog) (wo := w) (base := base) (mg := mg) F_is_index g_is_whole k_is_whole b_is_whole G_is_whole g_is_index_row k_is_index_row b_is_index_row G_is_index_row bI_all bI_isinstance bI_tuple bI_len bI_list
  have G_index_row_in := ok_index_row_in (Pr := l.prog) (wo := w) (base := base) (mg := mg) F_index_row_in T_Numbers L_Numbers__number bI_tuple bI_range
  have G__law_no_index := ok__law_no_index (Pr := l.prog) (wo := w) (base := base) (mg := mg) F__law_no_index g__law_digit k__law_digit b__law_digit G__law_digit g__law_no_row k__law_no_row b__law_no_row G__law_no_row bI_len bI_tuple
  have G_index_body := ok_index_body (Pr := l.prog) (wo := w) (base := base) (mg := mg) F_index_body T_NoBody g_all_written k_all_written b_all_written G_all_written g_is_index k_is_index b_is_index G_is_index bI_len bI_list
  have G_index_in := ok_index_in (Pr := l.prog) (wo := w) (base := base) (mg := mg) F_index_in T_Numbers L_Numbers__number g_index_row_in k_index_row_in b_index_row_in G_index_row_in bI_range
  have G_read_as__index_in__index_body := ok_read_as__index_in__index_body (Pr := l.prog) (wo := w) (base := base) (mg := mg) F_read_as__index_in__index_body T_NoBody T_Numbers M_Numbers lo_Numbers bi_Numbers Gi_Numbers g_index_in k_index_in b_index_in G_index_in g_is_bytes k_is_bytes b_is_bytes G_is_bytes g_index_body k_index_body b_index_body G_index_body
  have G__law_refused__index_body := ok__law_refused__index_body (Pr := l.prog) (wo := w) (base := base) (mg := mg) F__law_refused__index_body T_NoBody T_ScrollError T_NoBytes T_NoLeaf T_NoNumber p_NoBody_NoBody p_NoBody_NoBytes p_NoBody_NoLeaf p_NoBody_NoNumber g_index_body k_index_body b_index_body G_index_body bI_isinstance
  have G_read_index := ok_read_index (Pr := l.prog) (wo := w) (base := base) (mg := mg) F_read_index g_index_in k_index_in b_index_in G_index_in g_index_body k_index_body b_index_body G_index_body g_read_as__index_in__index_body k_read_as__index_in__index_body b_read_as__index_in__index_body G_read_as__index_in__index_body
  have G__law_refused__read_index := ok__law_refused__read_index (Pr := l.prog) (wo := w) (base := base) (mg := mg) F__law_refused__read_index T_NoBody T_ScrollError T_NoBytes T_NoLeaf T_NoNumber p_NoBody_NoBody p_NoBody_NoBytes p_NoBody_NoLeaf p_NoBody_NoNumber g_read_index k_read_index b_read_index G_read_index bI_isinstance
  have G_law := ok_law (Pr := l.prog) (wo := w) (base := base) (mg := mg) F_law g__law_index k__law_index b__law_index G__law_index g__law_all_figures k__law_all_figures b__law_all_figures G__law_all_figures g__law_cell_at k__law_cell_at b__law_cell_at G__law_cell_at g_read_index k_read_index b_read_index G_read_index g__law_index_numbers k__law_index_numbers b__law_index_numbers G__law_index_numbers g_index_body k_index_body b_index_body G_index_body g__law_no_index k__law_no_index b__law_no_index G__law_no_index g__law_digit k__law_digit b__law_digit G__law_digit g__law_refused__index_body k__law_refused__index_body b__law_refused__index_body G__law_refused__index_body g__law_refused__read_index k__law_refused__read_index b__law_refused__read_index G__law_refused__read_index bI_range bI_list bI_all bI_isinstance bI_tuple
  exact G_law.imp fun vs H Q E h => top_of law_ok h
end A
open PySem PySem.W PyProof.Rows
set_option maxRecDepth 100000 in
set_option maxHeartbeats 0 in
theorem PySem.Challenge.cw_lanescroll_k43_indexes_and_their_bodies_holds : PySem.Challenge.rw_lanescroll_k43_indexes_and_their_bodies.Holds := by
  w_on; o_law; k_head; (case hw => w_witness2)
  k_fill
  refine Y.walk_top (l := PySem.Challenge.rw_lanescroll_k43_indexes_and_their_bodies) (k := 8) (x := "_law_script") rfl rfl ⟨rfl, by decide, by decide⟩ (fun w h Y => PySem.W.kIn_of Y) ?F
  case F =>
    intro w mg fa h KX G hmg
    refine' A.all_mk KX G hmg ?kca_Numbers ?kcpg_Numbers ?kchd_Numbers ?kcpo_Numbers ?kcsa_Numbers ?kcha_Numbers ?kchm_Numbers ?kcty_Numbers ?kcis_Numbers ?kcself_Numbers ?kctbool_Numbers ?kctint_Numbers ?kctstr_Numbers ?kctlist_Numbers ?kcttuple_Numbers ?kctdict_Numbers ?kcmk_Numbers ?kckp_Numbers ?n_Numbers_row ?n_Numbers_at ?a_is_whole ?l_is_whole ?c_is_whole ?k_is_whole ?a_is_bytes ?l_is_bytes ?c_is_bytes ?k_is_bytes ?a_written ?l_written ?c_written ?k_written ?a_number_at ?l_number_at ?c_number_at ?k_number_at ?a_all_written ?l_all_written ?c_all_written ?k_all_written ?a_is_index_row ?l_is_index_row ?c_is_index_row ?k_is_index_row ?a_is_index ?l_is_index ?c_is_index ?k_is_index ?a_index_body ?l_index_body ?c_index_body ?k_index_body ?a_index_row_in ?l_index_row_in ?c_index_row_in ?k_index_row_in ?a_index_in ?l_index_in ?c_index_in ?k_index_in ?a_read_as ?l_read_as ?c_read_as ?k_read_as ?a_read_index ?l_read_index ?c_read_index ?k_read_index ?a__law_cell_at ?l__law_cell_at ?c__law_cell_at ?k__law_cell_at ?a__law_digit ?l__law_digit ?c__law_digit ?k__law_digit ?a__law_figures ?l__law_figures ?c__law_figures ?k__law_figures ?a__law_index_numbers ?l__law_index_numbers ?c__law_index_numbers ?k__law_index_numbers ?a__law_all_figures ?l__law_all_figures ?c__law_all_figures ?k__law_all_figures ?a__law_refused ?l__law_refused ?c__law_refused ?k__law_refused ?a__law_index ?l__law_index ?c__law_index ?k__law_index ?a__law_no_row ?l__law_no_row ?c__law_no_row ?k__law_no_row ?a__law_no_index ?l__law_no_index ?c__law_no_index ?k__law_no_index ?a_law ?l_law ?c_law ?k_law ?a_Numbers____init__ ?fn_Numbers____init__ ?l_Numbers____init__ ?c_Numbers____init__ ?k_Numbers____init__ ?a_Numbers__number ?fn_Numbers__number ?l_Numbers__number ?c_Numbers__number ?k_Numbers__number ?xca_NoNumber ?xchg_NoNumber ?xchk_NoNumber ?xchs_NoNumber ?xchd_NoNumber ?xcha_NoNumber ?xchm_NoNumber ?xcty_NoNumber ?xckp_NoNumber ?xcve_NoNumber ?xcis_NoNumber ?xcself_NoNumber ?xcex_NoNumber ?xca_NoBody ?xchg_NoBody ?xchk_NoBody ?xchs_NoBody ?xchd_NoBody ?xcha_NoBody ?xchm_NoBody ?xcty_NoBody ?xckp_NoBody ?xcve_NoBody ?xcis_NoBody ?xcself_NoBody ?xcex_NoBody ?xca_ScrollError ?xchg_ScrollError ?xchk_ScrollError ?xchs_ScrollError ?xchd_ScrollError ?xcha_ScrollError ?xchm_ScrollError ?xcty_ScrollError ?xckp_ScrollError ?xcve_ScrollError ?xcis_ScrollError ?xcself_ScrollError ?xcex_ScrollError ?xca_NoBytes ?xchg_NoBytes ?xchk_NoBytes ?xchs_NoBytes ?xchd_NoBytes ?xcha_NoBytes ?xchm_NoBytes ?xcty_NoBytes ?xckp_NoBytes ?xcve_NoBytes ?xcis_NoBytes ?xcself_NoBytes ?xcex_NoBytes ?xca_NoLeaf ?xchg_NoLeaf ?xchk_NoLeaf ?xchs_NoLeaf ?xchd_NoLeaf ?xcha_NoLeaf ?xchm_NoLeaf ?xcty_NoLeaf ?xckp_NoLeaf ?xcve_NoLeaf ?xcis_NoLeaf ?xcself_NoLeaf ?xcex_NoLeaf ?cg_GREATEST ?p_NoBody_NoBody ?p_NoBody_NoBytes ?p_NoBody_NoLeaf ?p_NoBody_NoNumber ?xhn ?xht ?z_isinstance ?z_int ?z_bool ?z_list ?z_all ?z_len ?z_tuple ?z_range
    (case kca_Numbers => k_is)
    (case kcpg_Numbers => k_is)
    (case kchd_Numbers => k_is)
    (case kcpo_Numbers => k_is)
    (case kcsa_Numbers => k_is)
    (case kcha_Numbers => k_is)
    (case kchm_Numbers => k_is)
    (case kcty_Numbers => k_is)
    (case kcis_Numbers => k_is)
    (case kcself_Numbers => k_is)
    (case kctbool_Numbers => k_is)
    (case kctint_Numbers => k_is)
    (case kctstr_Numbers => k_is)
    (case kctlist_Numbers => k_is)
    (case kcttuple_Numbers => k_is)
    (case kctdict_Numbers => k_is)
    (case kcmk_Numbers => k_is)
    (case kckp_Numbers => k_is)
    (case n_Numbers_row => k_is)
    (case n_Numbers_at => k_is)
    (case a_is_whole => k_is)
    (case l_is_whole => k_is)
    (case c_is_whole => k_is)
    (case k_is_whole => k_is)
    (case a_is_bytes => k_is)
    (case l_is_bytes => k_is)
    (case c_is_bytes => k_is)
    (case k_is_bytes => k_is)
    (case a_written => k_is)
    (case l_written => k_is)
    (case c_written => k_is)
    (case k_written => k_is)
    (case a_number_at => k_is)
    (case l_number_at => k_is)
    (case c_number_at => k_is)
    (case k_number_at => k_is)
    (case a_all_written => k_is)
    (case l_all_written => k_is)
    (case c_all_written => k_is)
    (case k_all_written => k_is)
    (case a_is_index_row => k_is)
    (case l_is_index_row => k_is)
    (case c_is_index_row => k_is)
    (case k_is_index_row => k_is)
    (case a_is_index => k_is)
    (case l_is_index => k_is)
    (case c_is_index => k_is)
    (case k_is_index => k_is)
    (case a_index_body => k_is)
    (case l_index_body => k_is)
    (case c_index_body => k_is)
    (case k_index_body => k_is)
    (case a_index_row_in => k_is)
    (case l_index_row_in => k_is)
    (case c_index_row_in => k_is)
    (case k_index_row_in => k_is)
    (case a_index_in => k_is)
    (case l_index_in => k_is)
    (case c_index_in => k_is)
    (case k_index_in => k_is)
    (case a_read_as => k_is)
    (case l_read_as => k_is)
    (case c_read_as => k_is)
    (case k_read_as => k_is)
    (case a_read_index => k_is)
    (case l_read_index => k_is)
    (case c_read_index => k_is)
    (case k_read_index => k_is)
    (case a__law_cell_at => k_is)
    (case l__law_cell_at => k_is)
    (case c__law_cell_at => k_is)
    (case k__law_cell_at => k_is)
    (case a__law_digit => k_is)
    (case l__law_digit => k_is)
    (case c__law_digit => k_is)
    (case k__law_digit => k_is)
    (case a__law_figures => k_is)
    (case l__law_figures => k_is)
    (case c__law_figures => k_is)
    (case k__law_figures => k_is)
    (case a__law_index_numbers => k_is)
    (case l__law_index_numbers => k_is)
    (case c__law_index_numbers => k_is)
    (case k__law_index_numbers => k_is)
    (case a__law_all_figures => k_is)
    (case l__law_all_figures => k_is)
    (case c__law_all_figures => k_is)
    (case k__law_all_figures => k_is)
    (case a__law_refused => k_is)
    (case l__law_refused => k_is)
    (case c__law_refused => k_is)
    (case k__law_refused => k_is)
    (case a__law_index => k_is)
    (case l__law_index => k_is)
    (case c__law_index => k_is)
    (case k__law_index => k_is)
    (case a__law_no_row => k_is)
    (case l__law_no_row => k_is)
    (case c__law_no_row => k_is)
    (case k__law_no_row => k_is)
    (case a__law_no_index => k_is)
    (case l__law_no_index => k_is)
    (case c__law_no_index => k_is)
    (case k__law_no_index => k_is)
    (case a_law => k_is)
    (case l_law => k_is)
    (case c_law => k_is)
    (case k_law => k_is)
    (case a_Numbers____init__ => k_is)
    (case fn_Numbers____init__ => k_is)
    (case l_Numbers____init__ => k_is)
    (case c_Numbers____init__ => k_is)
    (case k_Numbers____init__ => k_is)
    (case a_Numbers__number => k_is)
    (case fn_Numbers__number => k_is)
    (case l_Numbers__number => k_is)
    (case c_Numbers__number => k_is)
    (case k_Numbers__number => k_is)
    (case xca_NoNumber => k_is)
    (case xchg_NoNumber => k_is)
    (case xchk_NoNumber => k_is)
    (case xchs_NoNumber => k_is)
    (case xchd_NoNumber => k_is)
    (case xcha_NoNumber => k_is)
    (case xchm_NoNumber => k_is)
    (case xcty_NoNumber => k_is)
    (case xckp_NoNumber => k_is)
    (case xcve_NoNumber => k_is)
    (case xcis_NoNumber => k_is)
    (case xcself_NoNumber => k_is)
    (case xcex_NoNumber => k_exc)
    (case xca_NoBody => k_is)
    (case xchg_NoBody => k_is)
    (case xchk_NoBody => k_is)
    (case xchs_NoBody => k_is)
    (case xchd_NoBody => k_is)
    (case xcha_NoBody => k_is)
    (case xchm_NoBody => k_is)
    (case xcty_NoBody => k_is)
    (case xckp_NoBody => k_is)
    (case xcve_NoBody => k_is)
    (case xcis_NoBody => k_is)
    (case xcself_NoBody => k_is)
    (case xcex_NoBody => k_exc)
    (case xca_ScrollError => k_is)
    (case xchg_ScrollError => k_is)
    (case xchk_ScrollError => k_is)
    (case xchs_ScrollError => k_is)
    (case xchd_ScrollError => k_is)
    (case xcha_ScrollError => k_is)
    (case xchm_ScrollError => k_is)
    (case xcty_ScrollError => k_is)
    (case xckp_ScrollError => k_is)
    (case xcve_ScrollError => k_is)
    (case xcis_ScrollError => k_is)
    (case xcself_ScrollError => k_is)
    (case xcex_ScrollError => k_exc)
    (case xca_NoBytes => k_is)
    (case xchg_NoBytes => k_is)
    (case xchk_NoBytes => k_is)
    (case xchs_NoBytes => k_is)
    (case xchd_NoBytes => k_is)
    (case xcha_NoBytes => k_is)
    (case xchm_NoBytes => k_is)
    (case xcty_NoBytes => k_is)
    (case xckp_NoBytes => k_is)
    (case xcve_NoBytes => k_is)
    (case xcis_NoBytes => k_is)
    (case xcself_NoBytes => k_is)
    (case xcex_NoBytes => k_exc)
    (case xca_NoLeaf => k_is)
    (case xchg_NoLeaf => k_is)
    (case xchk_NoLeaf => k_is)
    (case xchs_NoLeaf => k_is)
    (case xchd_NoLeaf => k_is)
    (case xcha_NoLeaf => k_is)
    (case xchm_NoLeaf => k_is)
    (case xcty_NoLeaf => k_is)
    (case xckp_NoLeaf => k_is)
    (case xcve_NoLeaf => k_is)
    (case xcis_NoLeaf => k_is)
    (case xcself_NoLeaf => k_is)
    (case xcex_NoLeaf => k_exc)
    (case cg_GREATEST => k_is)
    (case p_NoBody_NoBody => k_is)
    (case p_NoBody_NoBytes => k_is)
    (case p_NoBody_NoLeaf => k_is)
    (case p_NoBody_NoNumber => k_is)
    (case xhn => k_is)
    (case xht => k_is)
    (case z_isinstance => k_is)
    (case z_int => k_is)
    (case z_bool => k_is)
    (case z_list => k_is)
    (case z_all => k_is)
    (case z_len => k_is)
    (case z_tuple => k_is)
    (case z_range => k_is)
