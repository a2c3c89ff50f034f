import PyProof.Rows.All
import Wide.All
import OpenK.AllK
import Wide.FinOn
import HandS.ForMost
import HandS.Evl
import HandS.IsInst
import HandS.Flow
import HandS.Defaults
import HandS.Wide
import HandS.WideMore
import HandS.Style
import HandS.ForExc
import HandS.TryOnly
import HandS.CallSlots
import HandS.ExcIs
import HandS.Walk
import HandS.Iter
import HandS.More
import HandS.TryMany
import HandS.ClsMeth
import HandS.TupAny
import HandS.SortKw
import HandS.WideBits
import HandS.Deep
import HandS.FStr
import KE.KCallOwn
import PyProof.Rows.FactsN_divmod
import KE.GoesRaise
import PySem.Challenge.RW_lanescroll_k41_heads_and_their_bodies
set_option Elab.async false
set_option linter.all false
set_option maxRecDepth 100000
set_option maxHeartbeats 2000000
namespace Y
open PySem PySem.Spec PyProof.Rows
open L2

/-- data: what a value stands for, through the heap -/
inductive D where
  | non | bl (b : Bool) | int (i : Int) | str (x : Str)
  | lst (ds : List D) | tup (ds : List D) | dic (kvs : List (Key × D))
  | obj (nm : Str) (fs : List (Str × D))

/-- a class of the text: its name, its address; what isinstance asks -/
structure KC (K : PySem.W.Frag) (nm : Str) (C : Addr) : Prop where
  a : PySem.W.nsIn K mainGlobals nm = some (some (.ref C))
  c : Cls K C
  ha : PySem.W.findIn K (.ref C) "__class__" = some (some (.builtin "object.__class__"))
  hn : PySem.W.specialIn K (.builtin "object.__class__") "__get__" = some (some (.builtin "getset_descriptor.__get__"))
  ht : PySem.W.takesIn K (.builtin "object.__class__") = some true
  hm : PySem.W.mroIn K C (.type "object") = some true
  bt : ∀ t ∈ ["bool", "int", "str", "list", "tuple", "dict"], PySem.W.subIn K (.ref C) (.type t) = some false

abbrev Ex (H H' : Hp) : Prop := ∀ a o, H a = some o → H' a = some o
theorem Ex.refl (H : Hp) : Ex H H := fun _ _ h => h
theorem Ex.trans {H H1 H2 : Hp} (a : Ex H H1) (b : Ex H1 H2) : Ex H H2 := fun x o h => b x o (a x o h)
theorem Ex.new {H : Hp} {p : Addr} {o : HO} (h : H p = none) : Ex H (upd H p o) := fun a u e => by
  rw [upd_ne (ne_of_none e h)]
  exact e
theorem Ex.upd {B H : Hp} {p : Addr} {o : HO} (e : Ex B H) (h : B p = none) : Ex B (upd H p o) := fun a u ha => by
  rw [upd_ne (ne_of_none ha h)]
  exact e a u ha
theorem Ex.both {B H : Hp} {p : Addr} {o : HO} (e : Ex B H) : Ex (L2.upd B p o) (L2.upd H p o) := fun a u ha => by
  by_cases q : a = p
  · subst q; rw [upd_same] at ha; cases ha; exact upd_same
  · rw [upd_ne q] at ha; rw [upd_ne q]; exact e a u ha
theorem Ex.none {H H' : Hp} {p : Addr} (e : Ex H H') (h : H' p = none) : H p = none := by
  cases h1 : H p with
  | none => rfl
  | some o => rw [e p o h1] at h; cases h
theorem Ex.rd {H H' : Hp} {a : Addr} {u : HO} (e : Ex H H') (h : Rd H a u) : Rd H' a u := by
  rcases h with h | ⟨o, h⟩
  · exact Or.inl (e a _ h)
  · exact Or.inr ⟨o, e a _ h⟩
theorem Ex.l {K : PySem.W.Frag} {H H' : Hp} {a : Addr} {xs : List V} (e : Ex H H') (h : SqL K H a xs) : SqL K H' a xs := by
  rcases h with h | h
  · exact Or.inl (e.rd h)
  · exact Or.inr h
theorem Ex.t {K : PySem.W.Frag} {H H' : Hp} {a : Addr} {xs : List V} (e : Ex H H') (h : SqT K H a xs) : SqT K H' a xs := by
  rcases h with h | h
  · exact Or.inl (e.rd h)
  · exact Or.inr h

mutual
/-- v stands for d -/
inductive Rep (K : PySem.W.Frag) (B : Hp) : V → D → Prop where
  | non : Rep K B .non .non
  | bl (b : Bool) : Rep K B (.bl b) (.bl b)
  | int (i : Int) : Rep K B (.int i) (.int i)
  | str (x : Str) : Rep K B (.str x) (.str x)
  | lst {p : Addr} {xs : List V} {ds : List D} (h : SqL K B p xs) (r : RepL K B xs ds) : Rep K B (.ref p) (.lst ds)
  | tup {p : Addr} {xs : List V} {ds : List D} (h : SqT K B p xs) (r : RepL K B xs ds) : Rep K B (.ref p) (.tup ds)
  | dic {p : Addr} {kvs : List (Key × V)} {ds : List (Key × D)} (h : B p = some (.dK kvs)) (r : RepK K B kvs ds) : Rep K B (.ref p) (.dic ds)
  | obj {p C dx : Addr} {nm : Str} {fs : List (Str × V)} {ds : List (Str × D)} (h : B p = some (.ins C dx fs)) (k : KC K nm C) (r : RepF K B fs ds) : Rep K B (.ref p) (.obj nm ds)
inductive RepL (K : PySem.W.Frag) (B : Hp) : List V → List D → Prop where
  | nil : RepL K B [] []
  | cons {v : V} {d : D} {vs : List V} {ds : List D} (h : Rep K B v d) (t : RepL K B vs ds) : RepL K B (v :: vs) (d :: ds)
inductive RepK (K : PySem.W.Frag) (B : Hp) : List (Key × V) → List (Key × D) → Prop where
  | nil : RepK K B [] []
  | cons {k : Key} {v : V} {d : D} {vs : List (Key × V)} {ds : List (Key × D)} (h : Rep K B v d) (t : RepK K B vs ds) : RepK K B ((k, v) :: vs) ((k, d) :: ds)
inductive RepF (K : PySem.W.Frag) (B : Hp) : List (Str × V) → List (Str × D) → Prop where
  | nil : RepF K B [] []
  | cons {k : Str} {v : V} {d : D} {vs : List (Str × V)} {ds : List (Str × D)} (h : Rep K B v d) (t : RepF K B vs ds) : RepF K B ((k, v) :: vs) ((k, d) :: ds)
end
section
variable {K : PySem.W.Frag} {B B' H : Hp}
mutual
theorem Rep.mono (e : Ex B B') : ∀ {v : V} {d : D}, Rep K B v d → Rep K B' v d
  | _, _, .non => .non
  | _, _, .bl b => .bl b
  | _, _, .int i => .int i
  | _, _, .str x => .str x
  | _, _, .lst h r => .lst (e.l h) (RepL.mono e r)
  | _, _, .tup h r => .tup (e.t h) (RepL.mono e r)
  | _, _, .dic h r => .dic (e _ _ h) (RepK.mono e r)
  | _, _, .obj h k r => .obj (e _ _ h) k (RepF.mono e r)
theorem RepL.mono (e : Ex B B') : ∀ {vs : List V} {ds : List D}, RepL K B vs ds → RepL K B' vs ds
  | _, _, .nil => .nil
  | _, _, .cons h t => .cons (Rep.mono e h) (RepL.mono e t)
theorem RepK.mono (e : Ex B B') : ∀ {vs : List (Key × V)} {ds : List (Key × D)}, RepK K B vs ds → RepK K B' vs ds
  | _, _, .nil => .nil
  | _, _, .cons h t => .cons (Rep.mono e h) (RepK.mono e t)
theorem RepF.mono (e : Ex B B') : ∀ {vs : List (Str × V)} {ds : List (Str × D)}, RepF K B vs ds → RepF K B' vs ds
  | _, _, .nil => .nil
  | _, _, .cons h t => .cons (Rep.mono e h) (RepF.mono e t)
end
theorem RepL.length : ∀ {vs : List V} {ds : List D}, RepL K B vs ds → vs.length = ds.length
  | _, _, .nil => rfl
  | _, _, .cons _ t => congrArg Nat.succ (RepL.length t)
theorem RepL.get : ∀ {vs : List V} {ds : List D} {i : Nat} {d : D}, RepL K B vs ds → ds[i]? = some d → ∃ v, vs[i]? = some v ∧ Rep K B v d
  | _, _, _, _, .nil, e => by simp at e
  | _, _, 0, _, .cons r _, e => by simp at e; subst e; exact ⟨_, rfl, r⟩
  | _, _, i + 1, x, .cons _ t, e => by
    obtain ⟨u, h1, h2⟩ := RepL.get (i := i) (d := x) t (by simpa using e)
    exact ⟨u, by simpa using h1, h2⟩
theorem RepL.append : ∀ {vs ws : List V} {ds es : List D}, RepL K B vs ds → RepL K B ws es → RepL K B (vs ++ ws) (ds ++ es)
  | _, _, _, _, .nil, s => s
  | _, _, _, _, .cons r t, s => .cons r (RepL.append t s)
theorem RepL.at {vs : List V} {ds : List D} {i : Int} {d : D} (r : RepL K B vs ds) (h : atI ds i = some d) : ∃ v, atI vs i = some v ∧ Rep K B v d := by
  unfold atI at h ⊢
  rw [r.length]
  cases e : ixN ds.length i with
  | none => rw [e] at h; cases h
  | some j => rw [e] at h; exact r.get h
theorem RepL.ints : ∀ (ns : List Int), RepL K B (ns.map V.int) (ns.map D.int)
  | [] => .nil
  | n :: r => .cons (.int n) (RepL.ints r)
theorem RepL.of_ints : ∀ {vs : List V} {ns : List Int}, RepL K B vs (ns.map D.int) → vs = ns.map V.int
  | [], [], _ => rfl
  | _ :: _, [], r => nomatch r
  | [], _ :: _, r => nomatch r
  | v :: vs, n :: ns, r => by
    cases r with
    | cons h t =>
      cases h
      rw [RepL.of_ints t]
      rfl
end

/-- from (B, H), what is known and the heap, to (B', H'), writing at most at W -/
structure Stp (W : List Addr) (B H B' H' : Hp) : Prop where
  ex : Ex B B'
  ok : Ex B' H'
  fr : ∀ a o, a ∉ W → H a = some o → H' a = some o
  al : ∀ a o, H a = some o → ∃ o', H' a = some o'
  nw : ∀ a o, B a = none → H a = some o → B' a = none
section
variable {W W' : List Addr} {B H B' H' B1 H1 B2 H2 : Hp} {p : Addr} {o : HO}
theorem Stp.refl (w : Ex B H) : Stp W B H B H := ⟨Ex.refl B, w, fun _ _ _ h => h, fun _ o h => ⟨o, h⟩, fun _ _ h _ => h⟩
theorem Stp.trans (a : Stp W B H B1 H1) (b : Stp W B1 H1 B2 H2) : Stp W B H B2 H2 :=
  ⟨a.ex.trans b.ex, b.ok, fun x o hx h => b.fr x o hx (a.fr x o hx h), fun x o h => let ⟨o1, h1⟩ := a.al x o h; b.al x o1 h1, fun x o hb h => let ⟨o1, h1⟩ := a.al x o h; b.nw x o1 (a.nw x o hb h) h1⟩
theorem Stp.w (a : Stp W B H B1 H1) (h : ∀ x, x ∈ W → x ∈ W') : Stp W' B H B1 H1 := ⟨a.ex, a.ok, fun x o hx e => a.fr x o (fun z => hx (h x z)) e, a.al, a.nw⟩
theorem Stp.w0 (a : Stp [] B H B1 H1) : Stp W B H B1 H1 := a.w fun _ h => nomatch h
/-- a new object that stays -/
theorem Stp.new (w : Ex B H) (h : H p = none) : Stp W B H (upd B p o) (upd H p o) :=
  ⟨Ex.new (w.none h), w.both, fun a u _ e => Ex.new h a u e, fun a u e => ⟨u, Ex.new h a u e⟩, fun a u hb e => by rw [upd_ne (ne_of_none e h)]; exact hb⟩
/-- a new object that may change -/
theorem Stp.newM (w : Ex B H) (h : H p = none) : Stp W B H B (upd H p o) :=
  ⟨Ex.refl B, w.upd (w.none h), fun a u _ e => Ex.new h a u e, fun a u e => ⟨u, Ex.new h a u e⟩, fun a u hb _ => hb⟩
/-- a changed object of W -/
theorem Stp.set (w : Ex B H) (hp : p ∈ W) (hb : B p = none) {u : HO} (hu : H p = some u) : Stp W B H B (upd H p o) :=
  ⟨Ex.refl B, w.upd hb, fun a u hx e => by rw [upd_ne (fun z => hx (by rw [z]; exact hp))]; exact e, fun a u e => by
    by_cases q : a = p
    · subst q; exact ⟨o, upd_same⟩
    · exact ⟨u, by rw [upd_ne q]; exact e⟩, fun _ _ h _ => h⟩
/-- an object of our own, made behind the entry, changed -/
theorem Stp.own (a : Stp W B H B1 H1) (h0 : H p = none) (hb : B1 p = none) (h : ∃ u, H1 p = some u) : Stp W B H B1 (upd H1 p o) :=
  ⟨a.ex, a.ok.upd hb, fun x u hx e => by rw [upd_ne (ne_of_none e h0)]; exact a.fr x u hx e, fun x u e => by
    rw [upd_ne (ne_of_none e h0)]; exact a.al x u e, a.nw⟩
/-- an object of our own turns into one that stays -/
theorem Stp.keep (w : Ex B H) (a : Stp W B H B1 H1) (h0 : H p = none) (hb : B1 p = none) (h : H1 p = some o) : Stp W B H (upd B1 p o) H1 :=
  ⟨fun x u e => by rw [upd_ne (ne_of_none e (w.none h0))]; exact a.ex x u e, fun x u e => by
    by_cases q : x = p
    · subst q; rw [upd_same] at e; cases e; exact h
    · rw [upd_ne q] at e; exact a.ok x u e, a.fr, a.al, fun x u hb e => by rw [upd_ne (ne_of_none e h0)]; exact a.nw x u hb e⟩
end
/-! ### mirrors -/
/-- an error that is raised: the class's name, what it is told -/
structure Err where
  cls : Str
  args : List D := []
/-- what a mirror gives: a value, an error, or a place that the model does not serve -/
inductive Res (α : Type) where
  | ok (a : α) | err (e : Err) | stuck
def Res.bind {α β : Type} (m : Res α) (k : α → Res β) : Res β := match m with | .ok a => k a | .err e => .err e | .stuck => .stuck
/-- an error that nobody waits for -/
def Res.noErr {α : Type} (m : Res α) : Res α := match m with | .ok a => .ok a | _ => .stuck
instance : Monad Res where
  pure := Res.ok
  bind := Res.bind
def Post0 {α : Type} (m : Res α) (P : α → Prop) (R : Err → Prop) : Prop := match m with | .ok a => P a | .err e => R e | .stuck => False
/-- what the mirror gives is wished for: a structure, so that nothing looks into it -/
structure Post {α : Type} (m : Res α) (P : α → Prop) (R : Err → Prop) : Prop where
  h0 : Post0 m P R
section
variable {α β : Type} {m : Res α} {P P' : α → Prop} {R R' : Err → Prop} {a : α}
theorem Post.mono (h : Post m P R) (hp : ∀ a, P a → P' a) (hr : ∀ e, R e → R' e) : Post m P' R' := by
  obtain ⟨h⟩ := h
  refine ⟨?_⟩
  cases m with
  | ok a => exact hp a h
  | err e => exact hr e h
  | stuck => exact h
theorem Post.bind {k : α → Res β} {P : β → Prop} (h : Post (m.bind k) P R) : Post m (fun a => Post (k a) P R) R := by
  obtain ⟨h⟩ := h
  refine ⟨?_⟩
  cases m
  · exact ⟨h⟩
  · exact h
  · exact h
theorem Post.noErr (h : Post m.noErr P R) : Post m P (fun _ => False) := by
  obtain ⟨h⟩ := h
  refine ⟨?_⟩
  cases m with
  | ok a => exact h
  | err e => exact h
  | stuck => exact h
theorem Post.ok (h : Post (.ok a) P R) : P a := h.h0
theorem Post.err {e : Err} (h : Post (.err e : Res α) P R) : R e := h.h0
theorem Post.elim {C : Prop} (h : Post (.stuck : Res α) P R) : C := False.elim h.h0
theorem Post.mk' (h : P a) : Post (.ok a) P R := ⟨h⟩
theorem Post.iteT {c : Bool} {m m' : Res α} (h : Post (if c = true then m else m') P R) (hc : c = true) : Post m P R := by
  rw [if_pos hc] at h; exact h
theorem Post.iteF {c : Bool} {m m' : Res α} (h : Post (if c = true then m else m') P R) (hc : c = false) : Post m' P R := by
  rw [hc, if_neg Bool.false_ne_true] at h; exact h
theorem Post.is {m' : Res α} (h : Post m P R) (e : m = m') : Post m' P R := e ▸ h
end
/-- an item -/
def ixR {α : Type} (l : List α) (i : Int) : Res α := match atI l i with | some x => .ok x | none => .stuck
theorem Post.ix {α β : Type} {l : List α} {i : Int} {k : α → Res β} {P : β → Prop} {R : Err → Prop} (h : Post ((ixR l i).bind k) P R) : ∃ x, atI l i = some x ∧ Post (k x) P R := by
  unfold ixR at h
  cases e : atI l i with
  | none => rw [e] at h; exact h.elim
  | some x => rw [e] at h; exact ⟨x, rfl, h⟩
/-- where c holds -/
def guardR {α : Type} (c : Prop) [Decidable c] (m : Res α) : Res α := if c then m else .stuck
theorem Post.guard {α : Type} {c : Prop} [Decidable c] {m : Res α} {P : α → Prop} {R : Err → Prop} (h : Post (guardR c m) P R) : c ∧ Post m P R := by
  unfold guardR at h
  by_cases e : c
  · rw [if_pos e] at h; exact ⟨e, h⟩
  · rw [if_neg e] at h; exact h.elim
instance (i j : Int) : Decidable (CMulW i j) := by unfold CMulW; infer_instance
instance (i j : Int) : Decidable (CDivW i j) := by unfold CDivW; infer_instance
/-- a loop's turn: on, or a value that is returned, or out -/
inductive Fl (S R : Type) where
  | nx (s : S) | rt (r : R) | bk (s : S)
def forR {α S R : Type} : List α → S → (α → S → Res (Fl S R)) → Res (Fl S R)
  | [], s, _ => .ok (.nx s)
  | x :: xs, s, f => (f x s).bind fun r => match r with | .nx s' => forR xs s' f | r => .ok r
theorem Post.forS {α S R : Type} {l : List α} {i : Nat} {s : S} {f : α → S → Res (Fl S R)} {P : Fl S R → Prop} {E : Err → Prop} {x : α} (h : Post (forR (l.drop i) s f) P E) (hx : l[i]? = some x) :
    Post (f x s) (fun r => match r with | .nx s' => Post (forR (l.drop (i + 1)) s' f) P E | .rt v => P (.rt v) | .bk s' => P (.bk s')) E := by
  obtain ⟨hi, e⟩ := List.getElem?_eq_some_iff.mp hx
  rw [List.drop_eq_getElem_cons hi, e] at h
  exact (Post.bind h).mono (fun r q => by
    cases r
    · exact q
    · exact q.ok
    · exact q.ok) fun _ q => q
theorem Post.forN {α S R : Type} {l : List α} {i : Nat} {s : S} {f : α → S → Res (Fl S R)} {P : Fl S R → Prop} {E : Err → Prop} (h : Post (forR (l.drop i) s f) P E) (hi : l.length ≤ i) : P (.nx s) := by
  rw [List.drop_eq_nil_of_le hi] at h
  exact h.ok

/-! ### what stands for data -/
class Enc (α : Type) where
  enc : α → D
open Enc (enc)
structure Tp1 (α : Type) where
  a : α
structure Tp2 (α β : Type) where
  a : α
  b : β
structure Tp3 (α β γ : Type) where
  a : α
  b : β
  c : γ
structure Tp4 (α β γ δ : Type) where
  a : α
  b : β
  c : γ
  d : δ
structure Tp5 (α β γ δ ε : Type) where
  a : α
  b : β
  c : γ
  d : δ
  e : ε
instance : Enc Int := ⟨.int⟩
instance : Enc Bool := ⟨.bl⟩
instance : Enc Str := ⟨.str⟩
instance : Enc Unit := ⟨fun _ => .non⟩
instance : Enc D := ⟨id⟩
instance {α : Type} [Enc α] : Enc (List α) := ⟨fun l => .lst (l.map enc)⟩
instance {α : Type} [Enc α] : Enc (Option α) := ⟨fun o => match o with | some x => enc x | none => .non⟩
instance {α : Type} [Enc α] : Enc (Tp1 α) := ⟨fun t => .tup [enc t.a]⟩
instance {α β : Type} [Enc α] [Enc β] : Enc (Tp2 α β) := ⟨fun t => .tup [enc t.a, enc t.b]⟩
instance {α β γ : Type} [Enc α] [Enc β] [Enc γ] : Enc (Tp3 α β γ) := ⟨fun t => .tup [enc t.a, enc t.b, enc t.c]⟩
instance {α β γ δ : Type} [Enc α] [Enc β] [Enc γ] [Enc δ] : Enc (Tp4 α β γ δ) := ⟨fun t => .tup [enc t.a, enc t.b, enc t.c, enc t.d]⟩
instance {α β γ δ ε : Type} [Enc α] [Enc β] [Enc γ] [Enc δ] [Enc ε] : Enc (Tp5 α β γ δ ε) := ⟨fun t => .tup [enc t.a, enc t.b, enc t.c, enc t.d, enc t.e]⟩

/-- a list that may change: at p, outside of what is known for good -/
def Mu (K : PySem.W.Frag) (B H : Hp) (p : Addr) (ds : List D) : Prop := B p = none ∧ ∃ xs, H p = some (.lst xs) ∧ RepL K B xs ds
/-- a list that stands in the written part -/
def KL (K : PySem.W.Frag) (a : Addr) (xs : List V) : Prop := ∃ (o : Obj) (its : Array Value) (n : Nat), K.lookup a = some o ∧ o.cls = .type "list" ∧ o.dict = none ∧ o.data = .seq its n ∧ its.size ≤ sizeLine ∧ Vals xs its.toList
/-- a list that is read: at v now -/
def Bor (K : PySem.W.Frag) (B H : Hp) (W : List Addr) (v : V) (ds : List D) : Prop := ∃ p xs, v = .ref p ∧ ((Rd H p (.lst xs) ∧ p ∉ W) ∨ KL K p xs) ∧ RepL K B xs ds
/-- what a return hands on -/
def Ret (K : PySem.W.Frag) (W : List Addr) (B H : Hp) (d : D) (Q : VK) : Prop := ∀ v B' H', Stp W B H B' H' → Rep K B' v d → Q v H'
/-- .. where the list at p may have changed -/
def RetM (K : PySem.W.Frag) (p : Addr) (B H : Hp) (d : D) (ds : List D) (Q : VK) : Prop := ∀ v B' H', Stp [p] B H B' H' → Mu K B' H' p ds → Rep K B' v d → Q v H'
/-- .. that is raised -/
def Rai (mg : Str → Option Value) (W : List Addr) (B H : Hp) (e : Err) (E : XK) : Prop := ∀ C B' H', mg e.cls = some (.ref C) → Stp W B H B' H' → E (.ref C) none H'
section
variable {K : PySem.W.Frag} {B B' B1 H H' H1 : Hp} {W : List Addr} {p q : Addr} {ds es : List D} {xs : List V} {d : D} {v : V} {Q : VK} {mg : Str → Option Value} {E : XK}
theorem Mu.step (m : Mu K B H p ds) (s : Stp W B H B' H') (h : p ∉ W) : Mu K B' H' p ds := by
  obtain ⟨hb, xs, hp, r⟩ := m
  exact ⟨s.nw p _ hb hp, xs, s.fr p _ h hp, r.mono s.ex⟩
theorem Mu.new (w : Ex B H) (h : H p = none) (r : RepL K B xs ds) : Mu K B (upd H p (.lst xs)) p ds := ⟨w.none h, xs, upd_same, r⟩
theorem Mu.bor (m : Mu K B H p ds) (h : p ∉ W) : Bor K B H W (.ref p) ds := by
  obtain ⟨hb, xs, hp, r⟩ := m
  exact ⟨p, xs, rfl, .inl ⟨.inl hp, h⟩, r⟩
theorem Mu.ne (m : Mu K B H p ds) (h : H q = none) : p ≠ q := by
  obtain ⟨hb, xs, hp, r⟩ := m
  exact ne_of_none hp h
theorem Bor.step (m : Bor K B H W v ds) (s : Stp W B H B' H') : Bor K B' H' W v ds := by
  obtain ⟨p, xs, e, hp, r⟩ := m
  refine ⟨p, xs, e, ?_, r.mono s.ex⟩
  rcases hp with ⟨hp | ⟨o, hp⟩, hw⟩ | hp
  · exact .inl ⟨.inl (s.fr p _ hw hp), hw⟩
  · exact .inl ⟨.inr ⟨o, s.fr p _ hw hp⟩, hw⟩
  · exact .inr hp
theorem Bor.w {W' : List Addr} (m : Bor K B H W v ds) (h : ∀ x, x ∈ W' → x ∈ W) : Bor K B H W' v ds := by
  obtain ⟨p, xs, e, hp, r⟩ := m
  refine ⟨p, xs, e, ?_, r⟩
  rcases hp with ⟨hp, hw⟩ | hp
  · exact .inl ⟨hp, fun z => hw (h p z)⟩
  · exact .inr hp
theorem Bor.sq (m : Bor K B H W v ds) : ∃ p xs, v = .ref p ∧ SqL K H p xs ∧ RepL K B xs ds := by
  obtain ⟨p, xs, e, hp, r⟩ := m
  refine ⟨p, xs, e, ?_, r⟩
  rcases hp with ⟨hp, _⟩ | hp
  · exact .inl hp
  · exact .inr hp
theorem Rep.bor (w : Ex B H) (r : Rep K B v (.lst ds)) (h : ∀ x, x ∈ W → B x = none) : Bor K B H W v ds := by
  cases r with
  | @lst p xs _ hp r =>
    refine ⟨p, xs, rfl, ?_, r⟩
    rcases hp with hp | hp
    · refine .inl ⟨w.rd hp, fun z => ?_⟩
      have e := h p z
      rcases hp with hp | ⟨o, hp⟩
      · rw [hp] at e; cases e
      · rw [hp] at e; cases e
    · exact .inr hp
theorem Rep.bor0 (w : Ex B H) (r : Rep K B v (.lst ds)) : Bor K B H [] v ds := r.bor w (fun _ z => nomatch z)
theorem Rep.sq (w : Ex B H) (r : Rep K B v (.lst ds)) : ∃ p xs, v = .ref p ∧ SqL K H p xs ∧ RepL K B xs ds := by
  cases r with
  | @lst p xs _ hp r => exact ⟨p, xs, rfl, w.l hp, r⟩
theorem Rep.st (w : Ex B H) (r : Rep K B v (.tup ds)) : ∃ p xs, v = .ref p ∧ SqT K H p xs ∧ RepL K B xs ds := by
  cases r with
  | @tup p xs _ hp r => exact ⟨p, xs, rfl, w.t hp, r⟩
theorem Mu.sq (m : Mu K B H p ds) : ∃ xs, H p = some (.lst xs) ∧ SqL K H p xs ∧ RepL K B xs ds := by
  obtain ⟨hb, xs, hp, r⟩ := m
  exact ⟨xs, hp, SqL.of hp, r⟩
theorem Stp.mut (w : Ex B H) (m : Mu K B H p ds) (r : RepL K B xs es) : Stp [p] B H B (upd H p (.lst xs)) ∧ Mu K B (upd H p (.lst xs)) p es := by
  obtain ⟨hb, ys, hp, _⟩ := m
  exact ⟨Stp.set w (by simp) hb hp, hb, xs, upd_same, r⟩
end
/-- the built-in type of a thing -/
def tyD : D → String
  | .non => "NoneType" | .bl _ => "bool" | .int _ => "int" | .str _ => "str" | .lst _ => "list" | .tup _ => "tuple" | .dic _ => "dict" | .obj _ _ => "object"
def isObjD : D → Bool | .obj _ _ => true | _ => false
theorem Rep.ty {K : PySem.W.Frag} {B H : Hp} {v : V} {d : D} (w : Ex B H) (r : Rep K B v d) (hd : isObjD d = false) : TyX K H v (.type (tyD d)) := by
  cases r with
  | obj h k r => exact nomatch hd
  | non => exact .base .non
  | bl b => exact .base (.bl b)
  | int i => exact .base (.int i)
  | str x => exact .base (.str x)
  | lst h r =>
    rcases h with (h | ⟨o, h⟩) | ⟨o, its, n, h, hc, _⟩
    · exact .base (.lst (w _ _ h))
    · exact .base (.frz (w _ _ h))
    · exact .kList h hc
  | tup h r =>
    rcases h with (h | ⟨o, h⟩) | ⟨o, its, n, h, hc, _⟩
    · exact .base (.tup (w _ _ h))
    · exact .fTuple (w _ _ h)
    · exact .kTuple h hc
  | dic h r => exact .base (.dK (w _ _ h))
def isS (s t : String) : Bool := s == t || (s == "bool" && t == "int")
def isA (t : String) (d : D) : Bool := isS (tyD d) t
theorem kit_tab : ∀ s ∈ ["NoneType", "bool", "int", "str", "list", "tuple", "dict"], ∀ t ∈ ["bool", "int", "str", "list", "tuple", "dict"], kitB s t = some (isS s t) := by decide +kernel
theorem tyD_in (d : D) (hd : isObjD d = false) : tyD d ∈ ["NoneType", "bool", "int", "str", "list", "tuple", "dict"] := by
  cases d
  case obj => exact nomatch hd
  all_goals simp [tyD]
theorem isS_obj : ∀ t ∈ ["bool", "int", "str", "list", "tuple", "dict"], isS "object" t = false := by decide +kernel
theorem meta_tab : ∀ t ∈ ["bool", "int", "str", "list", "tuple", "dict"], PySem.W.kitMeta t = true := by decide +kernel
theorem KC.kit {K : PySem.W.Frag} {nm : Str} {C : Addr} (k : KC K nm C) {t : String} (ht : t ∈ ["bool", "int", "str", "list", "tuple", "dict"]) : PySem.W.kitOne K (.ref C) (.type t) = some false := by
  unfold PySem.W.kitOne
  rw [if_neg (by simp)]
  show (if PySem.W.kitMeta t = true then PySem.W.subIn K (.ref C) (.type t) else none) = some false
  rw [if_pos (meta_tab t ht)]
  exact k.bt t ht
theorem KC.tyx {K : PySem.W.Frag} {nm : Str} {C p dx : Addr} {H : Hp} {fs : List (Str × V)} (k : KC K nm C) (h : H p = some (.ins C dx fs)) : TyX K H (.ref p) (.ref C) := .base (.ins h k.c k.ha k.hn k.ht k.hm)
/-- isinstance(x, int | bool | str | list | tuple | dict) -/
theorem isi {K : PySem.W.Frag} {B H : Hp} {v : V} {d : D} {t : String} {Q : VK} (w : Ex B H) (r : Rep K B v d) (q : Q (.bl (isA t d)) H) (ht : t ∈ ["bool", "int", "str", "list", "tuple", "dict"] := by simp) : rIsi K [v, .ty t] H Q := by
  by_cases hd : isObjD d = true
  · cases r with
    | @obj p C dx nm fs ds h k r =>
      have e : isA t (.obj nm ds) = false := isS_obj t ht
      rw [e] at q
      exact ⟨_, .ty t, .ref C, .type t, false, rfl, .ty t, k.tyx (w _ _ h), k.kit ht, q⟩
    | _ => exact nomatch hd
  · have hd := Bool.eq_false_iff.mpr hd
    exact ⟨v, .ty t, _, .type t, isA t d, rfl, .ty t, r.ty w hd, kit_ty (kit_tab _ (tyD_in d hd) _ ht), q⟩
theorem boot_bool : bootBuiltins "bool" = some (.type "bool") := by decide +kernel
theorem boot_int : bootBuiltins "int" = some (.type "int") := by decide +kernel
theorem boot_str : bootBuiltins "str" = some (.type "str") := by decide +kernel
theorem boot_list : bootBuiltins "list" = some (.type "list") := by decide +kernel
theorem boot_tuple : bootBuiltins "tuple" = some (.type "tuple") := by decide +kernel
theorem boot_dict : bootBuiltins "dict" = some (.type "dict") := by decide +kernel

/-! ### readings, step by step -/
def NwL (xs : List V) (H : Hp) (Q : VK) : Prop := ∀ p, H p = none → Q (.ref p) (upd H p (.lst xs))
def NwT (xs : List V) (H : Hp) (Q : VK) : Prop := ∀ p, H p = none → Q (.ref p) (upd H p (.tup xs))
def NewL (xs : List V) (H : Hp) (Q : VK) : Prop := xs.length ≤ sizeLine ∧ NwL xs H Q
def NewT (xs : List V) (H : Hp) (Q : VK) : Prop := xs.length ≤ sizeLine ∧ NwT xs H Q
section
variable {K : PySem.W.Frag} {σ σ' : L2.St} {H : Hp} {Q : VK} {D' : Ends} {te ta tb tc : TE} {tt tt' : TT} {t u z : TS} {tl : TA} {v x y : V} {i j : Int} {n : Nat} {r r' : R2} {W : List Addr}
theorem h_seq (h : t { D' with nx := u D' } σ H) : tSeq t u D' σ H := h
theorem h_set (h : te σ H fun x H1 => u D' (σ.set n (some x)) H1) : tSeq (tAsg te (gName n)) u D' σ H := h
theorem h_set1 (h : te σ H fun x H1 => D'.nx (σ.set n (some x)) H1) : tAsg te (gName n) D' σ H := h
theorem h_nrm {T : L2.St → Hp → Prop} (h : T σ' H) (e : σ' = σ := by rfl) : T σ H := e ▸ h
theorem h_drop (h : te σ H fun _ H1 => D'.nx σ H1) : tDrop te D' σ H := h
theorem h_ret (h : te σ H D'.rt) : tRet te D' σ H := h
theorem h_if {c : TT} (h : c σ H fun b H1 => if b = true then t D' σ H1 else u D' σ H1) : tIfS c t u D' σ H := h
theorem h_next (h : D'.nx σ H) : tNext D' σ H := h
theorem h_nx {a c d : L2.St → Hp → Prop} {b : VK} (h : a σ H) : (Ends.mk a b c d).nx σ H := h
theorem h_var (e : σ[n]? = some (some v)) (h : Q v H) : tVar n σ H Q := ⟨v, e, h⟩
theorem h_c (h : Q v H) : tC v σ H Q := h
theorem h_op (h : ta σ H fun x H1 => tb σ H1 fun y H2 => r x y H2 Q) : tOp r ta tb σ H Q := h
theorem h_I0 {g : Int → Int → V} (h : Q (g i j) H) : rI0 g (.int i) (.int j) H Q := ⟨i, j, rfl, rfl, h⟩
theorem h_I {C : Int → Int → Prop} {g : Int → Int → V} (c : C i j) (h : Q (g i j) H) : rI C g (.int i) (.int j) H Q := ⟨i, j, rfl, rfl, c, h⟩
theorem h_un {f : V → Hp → VK → Prop} (h : ta σ H fun x H1 => f x H1 Q) : tUn f ta σ H Q := h
theorem h_U {g : Int → V} (h : Q (g i) H) : rU g (.int i) H Q := ⟨i, rfl, h⟩
theorem h_eq (s : scal x y = true) (h : Q (.bl (decide (x = y))) H) : rEq x y H Q := ⟨s, h⟩
theorem h_ne (s : scal x y = true) (h : Q (.bl (!decide (x = y))) H) : rNe x y H Q := ⟨s, h⟩
theorem dec_i : decide (V.int i = V.int j) = decide (i = j) := by simp
theorem dec_b {i j : Bool} : decide (V.bl i = V.bl j) = decide (i = j) := by simp
theorem dec_s {i j : Str} : decide (V.str i = V.str j) = decide (i = j) := by simp
theorem h_eqI (h : Q (.bl (decide (i = j))) H) : rEq (.int i) (.int j) H Q := ⟨rfl, by rw [dec_i]; exact h⟩
theorem h_neI (h : Q (.bl (!decide (i = j))) H) : rNe (.int i) (.int j) H Q := ⟨rfl, by rw [dec_i]; exact h⟩
theorem h_eqS {i j : Str} (h : Q (.bl (decide (i = j))) H) : rEq (.str i) (.str j) H Q := ⟨rfl, by rw [dec_s]; exact h⟩
theorem h_neS {i j : Str} (h : Q (.bl (!decide (i = j))) H) : rNe (.str i) (.str j) H Q := ⟨rfl, by rw [dec_s]; exact h⟩
theorem h_eqB {i j : Bool} (h : Q (.bl (decide (i = j))) H) : rEq (.bl i) (.bl j) H Q := ⟨rfl, by rw [dec_b]; exact h⟩
theorem h_neB {i j : Bool} (h : Q (.bl (!decide (i = j))) H) : rNe (.bl i) (.bl j) H Q := ⟨rfl, by rw [dec_b]; exact h⟩
theorem h_chain (h : ta σ H fun x H1 => tb σ H1 fun y H2 => r x y H2 fun z H3 => ∃ k, z = .bl k ∧ (if k = true then tc σ H3 fun w' H4 => r' y w' H4 Q else Q (.bl false) H3)) : tChain r r' ta tb tc σ H Q := h
theorem h_chk {k : Bool} {A : Prop} {w : V} {f : Bool → Prop} (hw : w = .bl k) (h : f k) : ∃ k, w = .bl k ∧ f k := ⟨k, hw, h⟩
theorem h_and (h : ta σ H fun x H1 => ∃ c, x = .bl c ∧ if c = true then tb σ H1 Q else Q (.bl false) H1) : tAndV ta tb σ H Q := h
theorem h_or (h : ta σ H fun x H1 => ∃ c, x = .bl c ∧ if c = true then Q (.bl true) H1 else tb σ H1 Q) : tOrV ta tb σ H Q := h
theorem h_not (h : ta σ H fun x H1 => ∃ c, x = .bl c ∧ Q (.bl (!c)) H1) : tNotV ta σ H Q := h
theorem h_tand {Q : Bool → Hp → Prop} (h : tt σ H fun c H1 => if c = true then tt' σ H1 Q else Q false H1) : tAnd tt tt' σ H Q := h
theorem h_tor {Q : Bool → Hp → Prop} (h : tt σ H fun c H1 => if c = true then Q true H1 else tt' σ H1 Q) : tOr tt tt' σ H Q := h
theorem h_tnot {Q : Bool → Hp → Prop} (h : tt σ H fun c H1 => Q (!c) H1) : tNot tt σ H Q := h
theorem h_test {Q : Bool → Hp → Prop} (h : te σ H fun x H' => ∃ k, x = .bl k ∧ Q k H') : tTest te σ H Q := h
theorem h_tB {Q : Bool → Hp → Prop} (h : te σ H fun x H' => ∃ k, x = .bl k ∧ Q k H') : tB te σ H Q := h
theorem h_bl {b : Bool} {f : Bool → Prop} (h : f b) : ∃ k, V.bl b = .bl k ∧ f k := ⟨b, rfl, h⟩
theorem h_iteT {A B : Prop} (h : A) : if true = true then A else B := by rw [if_pos rfl]; exact h
theorem h_iteF {A B : Prop} (h : B) : if false = true then A else B := by rw [if_neg Bool.false_ne_true]; exact h
theorem h_ite {b : Bool} {A B : Prop} (h1 : b = true → A) (h2 : b = false → B) : if b = true then A else B := by
  cases b
  · exact h_iteF (h2 rfl)
  · exact h_iteT (h1 rfl)
theorem h_ifE {c : TT} (h : c σ H fun b H1 => if b = true then ta σ H1 Q else tb σ H1 Q) : tIf c ta tb σ H Q := h
theorem h_nil {Q : List V → Hp → Prop} (h : Q [] H) : tNil σ H Q := h
theorem h_cons {Q : List V → Hp → Prop} (h : te σ H fun x H1 => tl σ H1 fun xs H2 => Q (x :: xs) H2) : tCons te tl σ H Q := h
theorem h_cb {f : List V → Hp → VK → Prop} (h : tl σ H fun vs H1 => f vs H1 Q) : tCB f tl σ H Q := h
theorem h_call {sp : Sp} {dvs : List V} {E : XK} (h : tl σ H fun vs H1 => sp (vs ++ dvs) H1 Q E) : tCall sp dvs E tl σ H Q := h
theorem h_callS {sp : Sp} {E : L2.St → XK} (h : tl σ H fun vs H1 => sp vs H1 Q (E σ)) : tCallS sp E tl σ H Q := h
theorem h_tup (h : tl σ H fun xs H1 => NewT xs H1 Q) : tTup tl σ H Q := h
theorem h_lst (h : tl σ H fun xs H1 => NewL xs H1 Q) : tLst tl σ H Q := h
theorem h_ixL {p : Addr} {xs : List V} (s : SqL K H p xs) (e : atI xs i = some v) (h : Q v H) : rIxL K (.ref p) (.int i) H Q := ⟨p, xs, i, v, rfl, rfl, s, e, h⟩
theorem h_ixT {p : Addr} {xs : List V} (s : SqT K H p xs) (e : atI xs i = some v) (h : Q v H) : rIxT K (.ref p) (.int i) H Q := ⟨p, xs, i, v, rfl, rfl, s, e, h⟩
end

section
variable {K : PySem.W.Frag} {σ : L2.St} {B B1 B' H H1 H' B0 H0 : Hp} {Q : VK} {W W' : List Addr} {p q : Addr} {xs ys : List V} {ds es : List D} {v : V} {d : D} {i j : Int} {te ta tb : TE}
theorem h_newL (w : Ex B H) (r : RepL K B xs ds) (h : ∀ p B' H', Stp [] B H B' H' → Rep K B' (.ref p) (.lst ds) → Q (.ref p) H') (hn : xs.length ≤ sizeLine) : NewL xs H Q :=
  ⟨hn, fun p hp => h p _ _ (Stp.new w hp) (.lst (SqL.of upd_same) (r.mono (Ex.new (w.none hp))))⟩
theorem h_newT (w : Ex B H) (r : RepL K B xs ds) (h : ∀ p B' H', Stp [] B H B' H' → Rep K B' (.ref p) (.tup ds) → Q (.ref p) H') (hn : xs.length ≤ sizeLine) : NewT xs H Q :=
  ⟨hn, fun p hp => h p _ _ (Stp.new w hp) (.tup (SqT.of upd_same) (r.mono (Ex.new (w.none hp))))⟩
theorem h_newM (w : Ex B H) (r : RepL K B xs ds) (h : ∀ p H', H p = none → Stp [] B H B H' → Mu K B H' p ds → Q (.ref p) H') (hn : xs.length ≤ sizeLine) : NewL xs H Q :=
  ⟨hn, fun p hp => h p _ hp (Stp.newM w hp) (Mu.new w hp r)⟩
theorem h_nwL (w : Ex B H) (r : RepL K B xs ds) (h : ∀ p B' H', Stp [] B H B' H' → Rep K B' (.ref p) (.lst ds) → Q (.ref p) H') : NwL xs H Q :=
  fun p hp => h p _ _ (Stp.new w hp) (.lst (SqL.of upd_same) (r.mono (Ex.new (w.none hp))))
theorem h_nwT (w : Ex B H) (r : RepL K B xs ds) (h : ∀ p B' H', Stp [] B H B' H' → Rep K B' (.ref p) (.tup ds) → Q (.ref p) H') : NwT xs H Q :=
  fun p hp => h p _ _ (Stp.new w hp) (.tup (SqT.of upd_same) (r.mono (Ex.new (w.none hp))))
theorem h_nwM (w : Ex B H) (r : RepL K B xs ds) (h : ∀ p H', H p = none → Stp [] B H B H' → Mu K B H' p ds → Q (.ref p) H') : NwL xs H Q :=
  fun p hp => h p _ hp (Stp.newM w hp) (Mu.new w hp r)
/-- what was free now was free at the entry -/
theorem Stp.nn (s : Stp W B0 H0 B H) (h : H p = none) : H0 p = none := by
  cases e : H0 p with
  | none => rfl
  | some o => obtain ⟨u, q⟩ := s.al p o e; rw [h] at q; cases q
/-- a step that writes at an object of our own -/
theorem Stp.own2 (a : Stp W B0 H0 B H) (s : Stp [p] B H B' H') (h0 : H0 p = none) : Stp W B0 H0 B' H' :=
  ⟨a.ex.trans s.ex, s.ok, fun x u hx e => s.fr x u (fun z => by
      rw [List.mem_singleton.mp z, h0] at e; cases e) (a.fr x u hx e), fun x u e => let ⟨u1, e1⟩ := a.al x u e; s.al x u1 e1, fun x u hb e => let ⟨u1, e1⟩ := a.al x u e; s.nw x u1 (a.nw x u hb e) e1⟩
theorem nm0 : p ∉ ([] : List Addr) := fun z => nomatch z
theorem nm1 (h : p ≠ q) : p ∉ [q] := fun z => h (List.mem_singleton.mp z)
theorem sub0 : ∀ x, x ∈ ([] : List Addr) → x ∈ W := fun _ z => nomatch z
/-- a list of our own is kept as it is -/
theorem Mu.keep (m : Mu K B H p ds) : ∃ B', Ex B B' ∧ (∀ q, q ≠ p → B q = none → B' q = none) ∧ (∀ W B0 H0, Stp W B0 H0 B H → Ex B0 H0 → H0 p = none → Stp W B0 H0 B' H) ∧ Rep K B' (.ref p) (.lst ds) := by
  obtain ⟨hb, xs, hp, r⟩ := m
  exact ⟨upd B p (.lst xs), Ex.new hb, fun q n e => by rw [upd_ne n]; exact e, fun W B0 H0 st w0 h0 => Stp.keep w0 st h0 hb hp, .lst (SqL.of upd_same) (r.mono (Ex.new hb))⟩
/-- a step that writes at what may be written and at objects of our own -/
theorem Stp.go (a : Stp W B0 H0 B H) (s : Stp W' B H B' H') (h : ∀ p, p ∈ W' → p ∈ W ∨ H0 p = none) : Stp W B0 H0 B' H' :=
  ⟨a.ex.trans s.ex, s.ok, fun x u hx e => s.fr x u (fun z => by
      rcases h x z with q | q
      · exact hx q
      · rw [q] at e; cases e) (a.fr x u hx e), fun x u e => let ⟨u1, e1⟩ := a.al x u e; s.al x u1 e1, fun x u hb e => let ⟨u1, e1⟩ := a.al x u e; s.nw x u1 (a.nw x u hb e) e1⟩
theorem go0 {F : Addr → Prop} : ∀ x, x ∈ ([] : List Addr) → F x := fun _ z => nomatch z
theorem go1 {F : Addr → Prop} (h : F p) : ∀ x, x ∈ [p] → F x := fun x z => by rw [List.mem_singleton.mp z]; exact h
theorem go2 {F : Addr → Prop} (h : F p) (h' : F q) : ∀ x, x ∈ [p, q] → F x := fun x z => by
  rcases List.mem_cons.mp z with e | e
  · rw [e]; exact h
  · rw [List.mem_singleton.mp e]; exact h'
theorem go3 {F : Addr → Prop} {r : Addr} (h : F p) (h' : F q) (h2 : F r) : ∀ x, x ∈ [p, q, r] → F x := fun x z => by
  rcases List.mem_cons.mp z with e | e
  · rw [e]; exact h
  · exact go2 h' h2 x e
theorem go4 {F : Addr → Prop} {r r2 : Addr} (h : F p) (h' : F q) (h2 : F r) (h3 : F r2) : ∀ x, x ∈ [p, q, r, r2] → F x := fun x z => by
  rcases List.mem_cons.mp z with e | e
  · rw [e]; exact h
  · exact go3 h' h2 h3 x e
theorem nm2 {r : Addr} (h : p ≠ q) (h' : p ≠ r) : p ∉ [q, r] := fun z => by
  rcases List.mem_cons.mp z with e | e
  · exact h e
  · exact h' (List.mem_singleton.mp e)
theorem nm3 {r r2 : Addr} (h : p ≠ q) (h' : p ≠ r) (h2 : p ≠ r2) : p ∉ [q, r, r2] := fun z => by
  rcases List.mem_cons.mp z with e | e
  · exact h e
  · exact nm2 h' h2 e
theorem nm4 {r r2 r3 : Addr} (h : p ≠ q) (h' : p ≠ r) (h2 : p ≠ r2) (h3 : p ≠ r3) : p ∉ [q, r, r2, r3] := fun z => by
  rcases List.mem_cons.mp z with e | e
  · exact h e
  · exact nm3 h' h2 h3 e
theorem Mu.kp (m : Mu K B H q es) (e : Ex B B') (k : ∀ q, q ≠ p → B q = none → B' q = none) (n : q ≠ p) : Mu K B' H q es := by
  obtain ⟨hb, xs, hp, r⟩ := m
  exact ⟨k q n hb, xs, hp, r.mono e⟩
theorem RepL.atE {α : Type} [Enc α] {l : List α} {x : α} (r : RepL K B xs (l.map enc)) (h : atI l i = some x) : ∃ v, atI xs i = some v ∧ Rep K B v (enc x) := by
  refine r.at ?_
  unfold atI at h ⊢
  rw [List.length_map]
  cases e : ixN l.length i with
  | none => rw [e] at h; cases h
  | some k =>
    rw [e] at h
    show (l.map enc)[k]? = _
    rw [List.getElem?_map, show l[k]? = some x from h]
    rfl
theorem h_pow {k : Int} (e : i ^ j.toNat = k) (c : CPow i j) (h : Q (.int k) H) : rI CPow (fun i j => .int (i ^ j.toNat)) (.int i) (.int j) H Q := ⟨i, j, rfl, rfl, c, by show Q (.int (i ^ j.toNat)) H; rw [e]; exact h⟩
instance (i j : Int) : Decidable (CPow i j) := by unfold CPow; infer_instance
instance (i j : Int) : Decidable (CMul i j) := by unfold CMul; infer_instance
instance (i j : Int) : Decidable (CDiv i j) := by unfold CDiv; infer_instance
def absI (i : Int) : Int := if i < 0 then -i else i
def b2z (b : Bool) : Int := if b then 1 else 0
theorem h_isB {a b : Bool} (h : Q (.bl (decide (a = b))) H) : rIsB (.bl a) (.bl b) H Q := ⟨a, b, rfl, rfl, h⟩
theorem h_isnotB {a b : Bool} (h : Q (.bl (!decide (a = b))) H) : rNotB (.bl a) (.bl b) H Q := ⟨a, b, rfl, rfl, h⟩
def rLenY (K : PySem.W.Frag) : List V → Hp → VK → Prop := fun xs H Q => ∃ p ys, xs = [.ref p] ∧ (SqL K H p ys ∨ SqT K H p ys) ∧ Q (.int ys.length) H
def rAbsY : List V → Hp → VK → Prop := fun xs H Q => ∃ i, xs = [.int i] ∧ Q (.int (if i < 0 then -i else i)) H
def rIntY : List V → Hp → VK → Prop := fun xs H Q => (∃ i, xs = [.int i] ∧ Q (.int i) H) ∨ ∃ k, xs = [.bl k] ∧ Q (.int (if k then 1 else 0)) H
def rStrY : List V → Hp → VK → Prop := fun xs H Q => ∃ i, xs = [.int i] ∧ i.natAbs.log2 < 1920 ∧ Q (.str (toString i)) H
def rListY (K : PySem.W.Frag) : List V → Hp → VK → Prop := fun xs H Q => ∃ p ys, xs = [.ref p] ∧ (SqL K H p ys ∨ SqT K H p ys) ∧ ∀ l, H l = none → Q (.ref l) (upd H l (.lst ys))
def rTupY (K : PySem.W.Frag) : List V → Hp → VK → Prop := fun xs H Q => ∃ p ys, xs = [.ref p] ∧ ((SqL K H p ys ∧ ∀ l, H l = none → Q (.ref l) (upd H l (.tup ys))) ∨ (SqT K H p ys ∧ Q (.ref p) H))
theorem cr_len {X : Cx} : CallR X (.builtin "len") (rLenY X.K) := call_len_seq
theorem cr_abs {X : Cx} : CallR X (.builtin "abs") rAbsY := call_abs
theorem cr_int {X : Cx} : CallR X (.type "int") rIntY := call_int1
theorem cr_str {X : Cx} : CallR X (.type "str") rStrY := call_str_int
theorem cr_list {X : Cx} : CallR X (.type "list") (rListY X.K) := call_list_of
theorem cr_tuple {X : Cx} : CallR X (.type "tuple") (rTupY X.K) := call_tuple_of
theorem h_len {α : Type} [Enc α] {l : List α} (s : SqL K H p xs) (r : RepL K B xs (l.map enc)) (h : Q (.int l.length) H) : rLenY K [V.ref p] H Q := by
  refine ⟨p, xs, rfl, .inl s, ?_⟩
  rw [show xs.length = l.length from by rw [r.length, List.length_map]]
  exact h
theorem h_lenT (s : SqT K H p xs) (r : RepL K B xs ds) (h : Q (.int ds.length) H) : rLenY K [V.ref p] H Q := by
  refine ⟨p, xs, rfl, .inr s, ?_⟩
  rw [r.length]
  exact h
theorem h_abs (h : Q (.int (absI i)) H) : rAbsY [V.int i] H Q := ⟨i, rfl, h⟩
theorem h_intB {b : Bool} (h : Q (.int (b2z b)) H) : rIntY [V.bl b] H Q := .inr ⟨b, rfl, h⟩
theorem h_intI (h : Q (.int i) H) : rIntY [V.int i] H Q := .inl ⟨i, rfl, h⟩
theorem h_str (c : i.natAbs.log2 < 1920) (h : Q (.str (toString i)) H) : rStrY [V.int i] H Q := ⟨i, rfl, c, h⟩
theorem h_listL (s : SqL K H p xs) (h : NwL xs H Q) : rListY K [V.ref p] H Q := ⟨p, xs, rfl, .inl s, h⟩
theorem h_listT (s : SqT K H p xs) (h : NwL xs H Q) : rListY K [V.ref p] H Q := ⟨p, xs, rfl, .inr s, h⟩
theorem h_tupL (s : SqL K H p xs) (h : NwT xs H Q) : rTupY K [V.ref p] H Q := ⟨p, xs, rfl, .inl ⟨s, h⟩⟩
theorem h_iteN {b : Bool} {A C : Prop} (h1 : b = false → A) (h2 : b = true → C) : if (!b) = true then A else C := by
  cases b
  · exact h_iteT (h1 rfl)
  · exact h_iteF (h2 rfl)
theorem h_iteNT {A C : Prop} (h : C) : if (!true) = true then A else C := h_iteF h
theorem h_iteNF {A C : Prop} (h : A) : if (!false) = true then A else C := h_iteT h
theorem Post.iteTn {α : Type} {m m' : Res α} {P : α → Prop} {R : Err → Prop} {c : Bool} (h : Post (if (!c) = true then m else m') P R) (hc : c = false) : Post m P R := by
  rw [hc] at h; exact h
theorem Post.iteFn {α : Type} {m m' : Res α} {P : α → Prop} {R : Err → Prop} {c : Bool} (h : Post (if (!c) = true then m else m') P R) (hc : c = true) : Post m' P R := by
  rw [hc] at h; exact h
end

/-! ### joins, loops, comprehensions, in step with the mirror -/
section
variable {K : PySem.W.Frag} {σ : L2.St} {B B1 B' H H1 H' B0 H0 : Hp} {Q : VK} {W W' : List Addr} {p q : Addr} {xs ys : List V} {ds es : List D} {v : V} {d : D} {t z tb : TS} {te : TE} {c tt : TT} {D' : Ends} {g : TG} {ti : TI}
variable {α β S R' : Type} {P : β → Prop} {R : Err → Prop}
theorem h_joinS {m : Res α} {k : α → Res β} (hP : Post (m.bind k) P R) (J : α → L2.St → Hp → Prop)
    (h1 : ∀ N : L2.St → Hp → Prop, (∀ a σ' H', J a σ' H' → Post (k a) P R → N σ' H') → Post m (fun a => Post (k a) P R) R → t { D' with nx := N } σ H)
    (h2 : ∀ a σ' H', J a σ' H' → Post (k a) P R → z D' σ' H') : tSeq t z D' σ H := h1 _ h2 hP.bind
theorem h_condJ {m : Res Bool} {k : Bool → Res β} {Qb : Bool → Hp → Prop} (hP : Post (m.bind k) P R) (J : Hp → Prop)
    (h1 : ∀ N : Bool → Hp → Prop, (∀ b H', J H' → Post (k b) P R → N b H') → Post m (fun b => Post (k b) P R) R → c σ H N)
    (h2 : ∀ b H', J H' → Post (k b) P R → Qb b H') : c σ H Qb := h1 _ h2 hP.bind
theorem h_exprJ {m : Res α} {k : α → Res β} (hP : Post (m.bind k) P R) (J : α → V → Hp → Prop)
    (h1 : ∀ N : VK, (∀ a v H', J a v H' → Post (k a) P R → N v H') → Post m (fun a => Post (k a) P R) R → te σ H N)
    (h2 : ∀ a v H', J a v H' → Post (k a) P R → Q v H') : te σ H Q := h1 _ h2 hP.bind
theorem h_gname {n : Nat} {Q : L2.St → Hp → Prop} (h : Q (σ.set n (some v)) H) : gName n v σ H Q := h
/-- behind a loop -/
def afterR (k : S → Res β) : Fl S β → Res β
  | .nx s => k s | .rt r => .ok r | .bk s => k s
/-- a join of ways of which some end the def (or the turn) -/
theorem h_joinF {m : Res (Fl S β)} {k : S → Res β} (hP : Post (m.bind (afterR k)) P R) (J : S → L2.St → Hp → Prop)
    (h1 : ∀ (N : L2.St → Hp → Prop) (T : Fl S β → Prop), (∀ a σ' H', J a σ' H' → T (.nx a) → N σ' H') → (∀ r, T (.rt r) → P r) → Post m T R → t { D' with nx := N } σ H)
    (h2 : ∀ a σ' H', J a σ' H' → Post (k a) P R → z D' σ' H') : tSeq t z D' σ H :=
  h1 _ (fun a => Post (afterR k a) P R) (fun a σ' H' j q => h2 a σ' H' j q) (fun _ q => (q : Post (.ok _) P R).ok) hP.bind
/-- what a turn hands on -/
def turnR (l : List α) (f : α → S → Res (Fl S R')) (i : Nat) (P : Fl S R' → Prop) (R : Err → Prop) : Fl S R' → Prop
  | .nx s => Post (forR (l.drop i) s f) P R | .rt r => P (.rt r) | .bk s => P (.bk s)
theorem Post.turn {l : List α} {i : Nat} {s : S} {f : α → S → Res (Fl S R')} {P : Fl S R' → Prop} {x : α} (h : Post (forR (l.drop i) s f) P R) (hx : l[i]? = some x) : Post (f x s) (turnR l f (i + 1) P R) R :=
  (Post.forS h hx).mono (fun r q => by cases r <;> exact q) fun _ q => q

theorem h_forE (h : te σ H fun x H1 => tFor (iList K (tC x)) g tb D' σ H1) : tFor (iList K te) g tb D' σ H := h
theorem h_forL [Enc α] {l : List α} {s0 : S} {f : α → S → Res (Fl S β)} {k : S → Res β} (hP : Post ((forR l s0 f).bind (afterR k)) P R) (hs : SqL K H p xs) (hr : RepL K B xs (l.map enc))
    (J : S → L2.St → Hp → Prop) (h0 : J s0 σ H) (hl : ∀ s σ' H', J s σ' H' → SqL K H' p xs)
    (hb : ∀ (N : L2.St → Hp → Prop) (T : Fl S β → Prop) (x : α) v s σ' H', J s σ' H' → Rep K B v (enc x) → (∀ s' σ2 H2, J s' σ2 H2 → T (.nx s') → N σ2 H2) → (∀ r, T (.rt r) → P r) → (∀ s' σ2 H2, J s' σ2 H2 → T (.bk s') → D'.nx σ2 H2) → Post (f x s) T R →
      g v σ' H' fun σ2 H2 => tb { D' with nx := N, ct := N, bk := D'.nx } σ2 H2)
    (hd : ∀ s σ' H', J s σ' H' → Post (k s) P R → D'.nx σ' H') : tFor (iList K (tC (.ref p))) g tb D' σ H := by
  refine ⟨p, rfl, ⟨xs, hs⟩, for_list (K := K) (a := p) (xs := xs) (fun i σ' H' => ∃ s, J s σ' H' ∧ Post (forR (l.drop i) s f) (fun a => Post (afterR k a) P R) R) ⟨s0, h0, hP.bind⟩ (fun i σ' H' _ ⟨s, j, _⟩ => hl s σ' H' j) ?_ ?_⟩
  · rintro i y σ' H' hi ⟨s, j, q⟩
    obtain ⟨x, hx⟩ : ∃ x, l[i]? = some x := by
      have h1 := (List.getElem?_eq_some_iff.mp hi).1
      rw [hr.length, List.length_map] at h1
      exact ⟨l[i], List.getElem?_eq_getElem h1⟩
    obtain ⟨u, hu, ru⟩ := hr.get (i := i) (d := enc x) (by rw [List.getElem?_map, hx]; rfl)
    rw [hi] at hu; cases hu
    exact hb _ _ x y s σ' H' j ru (fun s' σ2 H2 j2 t2 => ⟨s', j2, t2⟩) (fun r t2 => (t2 : Post (.ok r) P R).ok) (fun s' σ2 H2 j2 t2 => hd s' σ2 H2 j2 t2) (q.turn hx)
  · rintro σ' H' ⟨s, j, q⟩
    exact hd s σ' H' j (q.forN (by rw [hr.length, List.length_map]; exact Nat.le_refl _))
theorem h_forTE (h : te σ H fun x H1 => tFor (iTup K (tC x)) g tb D' σ H1) : tFor (iTup K te) g tb D' σ H := h
theorem h_forT [Enc α] {l : List α} {s0 : S} {f : α → S → Res (Fl S β)} {k : S → Res β} (hP : Post ((forR l s0 f).bind (afterR k)) P R) (hs : SqT K H p xs) (hr : RepL K B xs (l.map enc))
    (J : S → L2.St → Hp → Prop) (h0 : J s0 σ H) (hl : ∀ s σ' H', J s σ' H' → SqT K H' p xs)
    (hb : ∀ (N : L2.St → Hp → Prop) (T : Fl S β → Prop) (x : α) v s σ' H', J s σ' H' → Rep K B v (enc x) → (∀ s' σ2 H2, J s' σ2 H2 → T (.nx s') → N σ2 H2) → (∀ r, T (.rt r) → P r) → (∀ s' σ2 H2, J s' σ2 H2 → T (.bk s') → D'.nx σ2 H2) → Post (f x s) T R →
      g v σ' H' fun σ2 H2 => tb { D' with nx := N, ct := N, bk := D'.nx } σ2 H2)
    (hd : ∀ s σ' H', J s σ' H' → Post (k s) P R → D'.nx σ' H') : tFor (iTup K (tC (.ref p))) g tb D' σ H := by
  refine ⟨p, rfl, ⟨xs, hs⟩, for_tup (K := K) (a := p) (xs := xs) (fun i σ' H' => ∃ s, J s σ' H' ∧ Post (forR (l.drop i) s f) (fun a => Post (afterR k a) P R) R) ⟨s0, h0, hP.bind⟩ (fun i σ' H' _ ⟨s, j, _⟩ => hl s σ' H' j) ?_ ?_⟩
  · rintro i y σ' H' hi ⟨s, j, q⟩
    obtain ⟨x, hx⟩ : ∃ x, l[i]? = some x := by
      have h1 := (List.getElem?_eq_some_iff.mp hi).1
      rw [hr.length, List.length_map] at h1
      exact ⟨l[i], List.getElem?_eq_getElem h1⟩
    obtain ⟨u, hu, ru⟩ := hr.get (i := i) (d := enc x) (by rw [List.getElem?_map, hx]; rfl)
    rw [hi] at hu; cases hu
    exact hb _ _ x y s σ' H' j ru (fun s' σ2 H2 j2 t2 => ⟨s', j2, t2⟩) (fun r t2 => (t2 : Post (.ok r) P R).ok) (fun s' σ2 H2 j2 t2 => hd s' σ2 H2 j2 t2) (q.turn hx)
  · rintro σ' H' ⟨s, j, q⟩
    exact hd s σ' H' j (q.forN (by rw [hr.length, List.length_map]; exact Nat.le_refl _))
/-- the ints from lo on, below hi -/
def rngI (lo hi : Int) : List Int := (List.range (hi - lo).toNat).map fun (i : Nat) => lo + (i : Int)
theorem rngI_get {lo hi : Int} {i : Nat} (h : i < (hi - lo).toNat) : (rngI lo hi)[i]? = some (lo + (i : Int)) := by
  unfold rngI
  rw [List.getElem?_map, List.getElem?_range h]
  rfl
theorem rngI_len {lo hi : Int} : (rngI lo hi).length = (hi - lo).toNat := by
  unfold rngI
  rw [List.length_map, List.length_range]
def Rng1 (vs : List V) (g : TG) (tb : TS) (D' : Ends) (σ : L2.St) (H : Hp) : Prop := tFor (iRng1 (fun _ H Q => Q vs H)) g tb D' σ H
def Rng2 (vs : List V) (g : TG) (tb : TS) (D' : Ends) (σ : L2.St) (H : Hp) : Prop := tFor (iRng2 (fun _ H Q => Q vs H)) g tb D' σ H
theorem h_rng1 {ta : TA} (h : ta σ H fun vs H1 => Rng1 vs g tb D' σ H1) : tFor (iRng1 ta) g tb D' σ H := h
theorem h_rng2 {ta : TA} (h : ta σ H fun vs H1 => Rng2 vs g tb D' σ H1) : tFor (iRng2 ta) g tb D' σ H := h
theorem forRng {lo hi : Int} {s0 : S} {f : Int → S → Res (Fl S β)} {k : S → Res β} (hP : Post ((forR (rngI lo hi) s0 f).bind (afterR k)) P R)
    (J : S → L2.St → Hp → Prop) (h0 : J s0 σ H)
    (hb : ∀ (N : L2.St → Hp → Prop) (T : Fl S β → Prop) (x : Int) s σ' H', J s σ' H' → lo ≤ x → x < hi → (∀ s' σ2 H2, J s' σ2 H2 → T (.nx s') → N σ2 H2) → (∀ r, T (.rt r) → P r) → (∀ s' σ2 H2, J s' σ2 H2 → T (.bk s') → D'.nx σ2 H2) → Post (f x s) T R →
      g (.int x) σ' H' fun σ2 H2 => tb { D' with nx := N, ct := N, bk := D'.nx } σ2 H2)
    (hd : ∀ s σ' H', J s σ' H' → Post (k s) P R → D'.nx σ' H') :
    ∃ W : Nat → Nat → L2.St → Hp → Prop, (∃ m, W 0 m σ H) ∧ ∀ i m σ H, W i m σ H →
      ((Itr lo (hi - lo).toNat).stop i H ∧ D'.nx σ H) ∨ ((Itr lo (hi - lo).toNat).go i H ∧ ∃ N : L2.St → Hp → Prop, (∀ σ' H', N σ' H' → ∃ m', m' < m ∧ W (i + 1) m' σ' H') ∧ ∀ x H', (Itr lo (hi - lo).toNat).yld i H x H' → g x σ H' fun σ2 H2 => tb { D' with nx := N, ct := N, bk := D'.nx } σ2 H2) := by
  refine for_range (lo := lo) (n := (hi - lo).toNat) (fun i σ' H' => ∃ s, J s σ' H' ∧ Post (forR ((rngI lo hi).drop i) s f) (fun a => Post (afterR k a) P R) R) ⟨s0, h0, hP.bind⟩ ?_ ?_
  · rintro i σ' H' hi' ⟨s, j, q⟩
    exact hb _ _ (lo + (i : Int)) s σ' H' j (by omega) (by omega) (fun s' σ2 H2 j2 t2 => ⟨s', j2, t2⟩) (fun r t2 => (t2 : Post (.ok r) P R).ok) (fun s' σ2 H2 j2 t2 => hd s' σ2 H2 j2 t2) (q.turn (rngI_get hi'))
  · rintro σ' H' ⟨s, j, q⟩
    exact hd s σ' H' j (q.forN (by rw [rngI_len]; exact Nat.le_refl _))
theorem h_forR1 {hi : Int} {s0 : S} {f : Int → S → Res (Fl S β)} {k : S → Res β} (hP : Post ((forR (rngI 0 hi) s0 f).bind (afterR k)) P R) (hz : -(2 ^ 62) ≤ hi ∧ hi < 2 ^ 62)
    (J : S → L2.St → Hp → Prop) (h0 : J s0 σ H)
    (hb : ∀ (N : L2.St → Hp → Prop) (T : Fl S β → Prop) (x : Int) s σ' H', J s σ' H' → 0 ≤ x → x < hi → (∀ s' σ2 H2, J s' σ2 H2 → T (.nx s') → N σ2 H2) → (∀ r, T (.rt r) → P r) → (∀ s' σ2 H2, J s' σ2 H2 → T (.bk s') → D'.nx σ2 H2) → Post (f x s) T R →
      g (.int x) σ' H' fun σ2 H2 => tb { D' with nx := N, ct := N, bk := D'.nx } σ2 H2)
    (hd : ∀ s σ' H', J s σ' H' → Post (k s) P R → D'.nx σ' H') : Rng1 [.int hi] g tb D' σ H := by
  have q := forRng hP J h0 hb hd
  rw [Int.sub_zero] at q
  exact ⟨hi, rfl, hz.1, hz.2, q⟩
theorem h_forR2 {lo hi : Int} {s0 : S} {f : Int → S → Res (Fl S β)} {k : S → Res β} (hP : Post ((forR (rngI lo hi) s0 f).bind (afterR k)) P R) (hz : (-(2 ^ 62) ≤ lo ∧ lo < 2 ^ 62) ∧ -(2 ^ 62) ≤ hi ∧ hi < 2 ^ 62)
    (J : S → L2.St → Hp → Prop) (h0 : J s0 σ H)
    (hb : ∀ (N : L2.St → Hp → Prop) (T : Fl S β → Prop) (x : Int) s σ' H', J s σ' H' → lo ≤ x → x < hi → (∀ s' σ2 H2, J s' σ2 H2 → T (.nx s') → N σ2 H2) → (∀ r, T (.rt r) → P r) → (∀ s' σ2 H2, J s' σ2 H2 → T (.bk s') → D'.nx σ2 H2) → Post (f x s) T R →
      g (.int x) σ' H' fun σ2 H2 => tb { D' with nx := N, ct := N, bk := D'.nx } σ2 H2)
    (hd : ∀ s σ' H', J s σ' H' → Post (k s) P R → D'.nx σ' H') : Rng2 [.int lo, .int hi] g tb D' σ H :=
  ⟨lo, hi, rfl, ⟨hz.1.1, hz.1.2, hz.2.1, hz.2.2⟩, forRng hP J h0 hb hd⟩

/-! comprehensions -/
def compL : List α → S → (α → S → Res (Option R' × S)) → Res (List R' × S)
  | [], s, _ => .ok ([], s)
  | x :: xs, s, f => (f x s).bind fun r => (compL xs r.2 f).bind fun q => .ok (match r.1 with | some b => b :: q.1 | none => q.1, q.2)
def compR (l : List α) (s : S) (f : α → S → Res (Option R' × S)) : Res (List R' × S) := guardR (l.length ≤ 1000000) (compL l s f)
def compT (l : List α) (f : α → S → Res (Option R' × S)) (k : List R' × S → Res β) (acc : List R') (P : β → Prop) (R : Err → Prop) : Option R' × S → Prop
  | (some b, s) => Post ((compL l s f).bind fun q => k (acc ++ [b] ++ q.1, q.2)) P R
  | (none, s) => Post ((compL l s f).bind fun q => k (acc ++ q.1, q.2)) P R
theorem Post.compS {l : List α} {i : Nat} {s : S} {f : α → S → Res (Option R' × S)} {k : List R' × S → Res β} {acc : List R'} {x : α} (h : Post ((compL (l.drop i) s f).bind fun q => k (acc ++ q.1, q.2)) P R) (hx : l[i]? = some x) :
    Post (f x s) (compT (l.drop (i + 1)) f k acc P R) R := by
  obtain ⟨hi, e⟩ := List.getElem?_eq_some_iff.mp hx
  rw [List.drop_eq_getElem_cons hi, e] at h
  have h2 := (Post.bind (Post.bind h))
  refine h2.mono (fun r q => ?_) fun _ q => q
  obtain ⟨o, s'⟩ := r
  cases o with
  | some b =>
    show Post ((compL (l.drop (i + 1)) s' f).bind fun q => k (acc ++ [b] ++ q.1, q.2)) P R
    have q1 : Post ((compL (l.drop (i + 1)) s' f).bind fun q => .ok (b :: q.1, q.2)) (fun a => Post (k (acc ++ a.1, a.2)) P R) R := q
    generalize compL (l.drop (i + 1)) s' f = m at q1 ⊢
    cases m with
    | ok a =>
      have q2 : Post (k (acc ++ (b :: a.1), a.2)) P R := q1.ok
      show Post (k (acc ++ [b] ++ a.1, a.2)) P R
      rw [List.append_assoc]
      exact q2
    | err e => exact ⟨q1.h0⟩
    | stuck => exact ⟨q1.h0⟩
  | none =>
    show Post ((compL (l.drop (i + 1)) s' f).bind fun q => k (acc ++ q.1, q.2)) P R
    have q1 : Post ((compL (l.drop (i + 1)) s' f).bind fun q => .ok (q.1, q.2)) (fun a => Post (k (acc ++ a.1, a.2)) P R) R := q
    generalize compL (l.drop (i + 1)) s' f = m at q1 ⊢
    cases m
    · exact q1.ok
    · exact ⟨q1.h0⟩
    · exact ⟨q1.h0⟩
theorem h_app1 [Enc α] {l : List α} {b : α} {y : V} {N : Hp → Prop} (w : Ex B H) (m : Mu K B H p (l.map enc)) (r : Rep K B y (enc b)) (hz : l.length < sizeLine) (h : ∀ H', Stp [p] B H B H' → Mu K B H' p ((l ++ [b]).map enc) → N H') :
    ∃ acc, H p = some (.lst acc) ∧ acc.length < sizeLine ∧ N (upd H p (.lst (acc ++ [y]))) := by
  obtain ⟨hb, xs, hp, hr⟩ := id m
  refine ⟨xs, hp, by rw [hr.length, List.length_map]; exact hz, ?_⟩
  have rl : RepL K B (xs ++ [y]) ((l ++ [b]).map enc) := by
    rw [List.map_append]
    exact hr.append (.cons r .nil)
  obtain ⟨s, m'⟩ := Stp.mut w m rl
  exact h _ s m'
def LcL (K : PySem.W.Frag) (v : V) (g : TG) (tt : TT) (te : TE) (vs : List Nat) (σ : L2.St) (H : Hp) (Q : VK) : Prop := tLc (iList K (tC v)) g tt te vs σ H Q
theorem h_lcE {vs : List Nat} {tl : TE} (h : tl σ H fun x H1 => LcL K x g tt te vs σ H1 Q) : tLc (iList K tl) g tt te vs σ H Q := h
def LcT (σ : L2.St) (vs : List Nat) (tt : TT) (te : TE) (Dl : Addr) (N : Hp → Prop) : L2.St → Hp → Prop := fun σ2 H2 => wipe σ2 vs = wipe σ vs ∧ tt σ2 H2 fun b H3 =>
  if b = true then te σ2 H3 fun y H4 => ∃ acc, H4 Dl = some (.lst acc) ∧ acc.length < sizeLine ∧ N (upd H4 Dl (.lst (acc ++ [y]))) else N H3
def App (Dl : Addr) (N : Hp → Prop) : VK := fun y H4 => ∃ acc, H4 Dl = some (.lst acc) ∧ acc.length < sizeLine ∧ N (upd H4 Dl (.lst (acc ++ [y])))
theorem h_lcT {vs : List Nat} {Dl : Addr} {N : Hp → Prop} {σ2 : L2.St} (e : wipe σ2 vs = wipe σ vs) (h : te σ2 H (App Dl N)) : LcT σ vs tYes te Dl N σ2 H := ⟨e, h⟩
theorem h_lcI {vs : List Nat} {Dl : Addr} {N : Hp → Prop} {σ2 : L2.St} (e : wipe σ2 vs = wipe σ vs) (h : tt σ2 H fun b H3 => if b = true then te σ2 H3 (App Dl N) else N H3) : LcT σ vs tt te Dl N σ2 H := ⟨e, h⟩
theorem h_app [Enc α] {l : List α} {b : α} {y : V} {N : Hp → Prop} (w : Ex B H) (m : Mu K B H p (l.map enc)) (r : Rep K B y (enc b)) (hz : l.length < sizeLine) (h : ∀ H', Stp [p] B H B H' → Mu K B H' p ((l ++ [b]).map enc) → N H') : App p N y H := h_app1 w m r hz h
theorem h_lcL [Enc α] {l : List α} {s0 : S} {f : α → S → Res (Option R' × S)} {k : List R' × S → Res β} {vs : List Nat} (hP : Post ((compR l s0 f).bind k) P R) (hs : SqL K H p xs) (hr : RepL K B xs (l.map enc))
    (J : Addr → List R' → S → Hp → Prop) (h0 : ∀ Dl, H Dl = none → J Dl [] s0 (upd H Dl (.lst []))) (hl : ∀ Dl acc s H', J Dl acc s H' → SqL K H' p xs)
    (hb : ∀ (Dl : Addr) (N : Hp → Prop) (T : Option R' × S → Prop) (x : α) v acc s H', J Dl acc s H' → Rep K B v (enc x) → acc.length < sizeLine → (∀ b s' H2, J Dl (acc ++ [b]) s' H2 → T (some b, s') → N H2) → (∀ s' H2, J Dl acc s' H2 → T (none, s') → N H2) → Post (f x s) T R →
      g v (wipe σ vs) H' (LcT σ vs tt te Dl N))
    (hd : ∀ Dl acc s H', J Dl acc s H' → Post (k (acc, s)) P R → Q (.ref Dl) H') : LcL K (.ref p) g tt te vs σ H Q := by
  refine ⟨p, rfl, ⟨xs, hs⟩, fun Dl hD => ?_⟩
  unfold compR at hP
  have hz : l.length ≤ 1000000 := by
    by_cases c : l.length ≤ 1000000
    · exact c
    · unfold guardR at hP; rw [if_neg c] at hP; exact hP.elim
  unfold guardR at hP
  rw [if_pos hz] at hP
  refine lc_list (K := K) (a := p) (xs := xs) (fun i H' => ∃ acc s, J Dl acc s H' ∧ acc.length ≤ i ∧ Post ((compL (l.drop i) s f).bind fun q => k (acc ++ q.1, q.2)) P R) ⟨[], s0, h0 Dl hD, Nat.le_refl _, hP⟩ (fun i H' _ ⟨acc, s, j, _⟩ => hl Dl acc s H' j) ?_ ?_
  · rintro i y H' hi ⟨acc, s, j, hn, q⟩
    have h1 := (List.getElem?_eq_some_iff.mp hi).1
    rw [hr.length, List.length_map] at h1
    obtain ⟨x, hx⟩ : ∃ x, l[i]? = some x := ⟨l[i], List.getElem?_eq_getElem h1⟩
    obtain ⟨u, hu, ru⟩ := hr.get (i := i) (d := enc x) (by rw [List.getElem?_map, hx]; rfl)
    rw [hi] at hu; cases hu
    exact hb Dl _ _ x y acc s H' j ru (Nat.lt_of_le_of_lt (Nat.le_trans hn (Nat.le_trans (Nat.le_of_lt h1) hz)) (by decide)) (fun b s' H2 j2 t2 => ⟨acc ++ [b], s', j2, by rw [List.length_append]; exact Nat.succ_le_succ hn, t2⟩) (fun s' H2 j2 t2 => ⟨acc, s', j2, Nat.le_succ_of_le hn, t2⟩) (q.compS hx)
  · rintro H' ⟨acc, s, j, _, q⟩
    rw [hr.length, List.length_map, List.drop_eq_nil_of_le (Nat.le_refl _)] at q
    have q2 : Post (k (acc ++ [], s)) P R := q
    rw [List.append_nil] at q2
    exact hd Dl acc s H' j q2
def LcR1 (ws : List V) (g : TG) (tt : TT) (te : TE) (vs : List Nat) (σ : L2.St) (H : Hp) (Q : VK) : Prop := tLc (iRng1 (fun _ H Q => Q ws H)) g tt te vs σ H Q
theorem h_lcR1E {vs : List Nat} {ta : TA} (h : ta σ H fun ws H1 => LcR1 ws g tt te vs σ H1 Q) : tLc (iRng1 ta) g tt te vs σ H Q := h
theorem h_lcR1 {hi : Int} {s0 : S} {f : Int → S → Res (Option R' × S)} {k : List R' × S → Res β} {vs : List Nat} (hP : Post ((compR (rngI 0 hi) s0 f).bind k) P R)
    (J : Addr → List R' → S → Hp → Prop) (h0 : ∀ Dl, H Dl = none → J Dl [] s0 (upd H Dl (.lst [])))
    (hb : ∀ (Dl : Addr) (N : Hp → Prop) (T : Option R' × S → Prop) (x : Int) acc s H', J Dl acc s H' → 0 ≤ x → x < hi → acc.length < sizeLine → (∀ b s' H2, J Dl (acc ++ [b]) s' H2 → T (some b, s') → N H2) → (∀ s' H2, J Dl acc s' H2 → T (none, s') → N H2) → Post (f x s) T R →
      g (.int x) (wipe σ vs) H' (LcT σ vs tt te Dl N))
    (hd : ∀ Dl acc s H', J Dl acc s H' → Post (k (acc, s)) P R → Q (.ref Dl) H') (hlo : -(2 ^ 62) ≤ hi) : LcR1 [.int hi] g tt te vs σ H Q := by
  unfold compR at hP
  have hz : (rngI 0 hi).length ≤ 1000000 := by
    by_cases c : (rngI 0 hi).length ≤ 1000000
    · exact c
    · unfold guardR at hP; rw [if_neg c] at hP; exact hP.elim
  unfold guardR at hP
  rw [if_pos hz] at hP
  rw [rngI_len, Int.sub_zero] at hz
  refine ⟨hi, rfl, hlo, by omega, fun Dl hD => ?_⟩
  refine lc_range (lo := 0) (n := hi.toNat) (fun i H' => ∃ acc s, J Dl acc s H' ∧ acc.length ≤ i ∧ Post ((compL ((rngI 0 hi).drop i) s f).bind fun q => k (acc ++ q.1, q.2)) P R) ⟨[], s0, h0 Dl hD, Nat.le_refl _, hP⟩ ?_ ?_
  · rintro i H' hi' ⟨acc, s, j, hn, q⟩
    have hx := rngI_get (lo := 0) (hi := hi) (i := i) (by omega)
    have e : (0 : Int) + (i : Int) = (i : Int) := Int.zero_add _
    exact hb Dl _ _ (0 + (i : Int)) acc s H' j (by omega) (by omega) (Nat.lt_of_le_of_lt (Nat.le_trans hn (Nat.le_trans (Nat.le_of_lt hi') hz)) (by decide)) (fun b s' H2 j2 t2 => ⟨acc ++ [b], s', j2, by rw [List.length_append]; exact Nat.succ_le_succ hn, t2⟩) (fun s' H2 j2 t2 => ⟨acc, s', j2, Nat.le_succ_of_le hn, t2⟩) (q.compS hx)
  · rintro H' ⟨acc, s, j, _, q⟩
    rw [List.drop_eq_nil_of_le (by rw [rngI_len]; omega)] at q
    have q2 : Post (k (acc ++ [], s)) P R := q
    rw [List.append_nil] at q2
    exact hd Dl acc s H' j q2
end

section
variable {K : PySem.W.Frag} {B B' H H' B0 H0 : Hp} {W : List Addr} {p : Addr} {xs : List V} {ds : List D} {v : V} {a b c d : L2.St → Hp → Prop} {rt : VK} {σ : L2.St}
theorem Rep.sqB (r : Rep K B v (.lst ds)) : ∃ p xs, v = .ref p ∧ SqL K B p xs ∧ RepL K B xs ds := by
  cases r with
  | @lst p xs _ hp r => exact ⟨p, xs, rfl, hp, r⟩
theorem Rep.stB (r : Rep K B v (.tup ds)) : ∃ p xs, v = .ref p ∧ SqT K B p xs ∧ RepL K B xs ds := by
  cases r with
  | @tup p xs _ hp r => exact ⟨p, xs, rfl, hp, r⟩
theorem Bor.sq0 (m : Bor K B0 H0 W v ds) : ∃ p xs, v = .ref p ∧ RepL K B0 xs ds ∧ ∀ B' H', Stp W B0 H0 B' H' → SqL K H' p xs := by
  obtain ⟨p, xs, e, hp, r⟩ := m
  refine ⟨p, xs, e, r, fun B' H' s => ?_⟩
  rcases hp with ⟨hp | ⟨o, hp⟩, hw⟩ | hp
  · exact .inl (.inl (s.fr p _ hw hp))
  · exact .inl (.inr ⟨o, s.fr p _ hw hp⟩)
  · exact .inr hp
theorem h_ct (h : d σ H) : tCont (Ends.mk a rt b d) σ H := h
theorem h_bk (h : b σ H) : tBreak (Ends.mk a rt b d) σ H := h
end

/-! ### lists that change -/
def setR {α : Type} (l : List α) (i : Int) (x : α) : Res (List α) := match ixN l.length i with | some j => .ok (l.set j x) | none => .stuck
def Bm (K : PySem.W.Frag) (T : String) (r : V → List V → Hp → VK → Prop) (t : TA) (σ : L2.St) (x : V) (H : Hp) (Q : VK) : Prop := tyV K T x H ∧ t σ H fun xs H2 => r x xs H2 Q
def Bm0 (K : PySem.W.Frag) (T : String) (r : V → List V → Hp → VK → Prop) (σ : L2.St) (x : V) (H : Hp) (Q : VK) : Prop := tyV K T x H ∧ r x [] H Q
section
variable {K : PySem.W.Frag} {σ : L2.St} {B H : Hp} {Q : VK} {p q : Addr} {v y : V} {te to ti : TE} {t : TA} {D' : Ends} {z : TS} {i : Int} {r : V → List V → Hp → VK → Prop}
theorem h_bm {T : String} (h : to σ H fun x H1 => Bm K T r t σ x H1 Q) : tBM K T r to t σ H Q := h
theorem h_bm0 {T : String} (h : to σ H fun x H1 => Bm0 K T r σ x H1 Q) : tBM0 K T r to σ H Q := h
theorem Mu.tyV {ds : List D} (m : Mu K B H p ds) : tyV K "list" (.ref p) H := by
  obtain ⟨hb, xs, hp, _⟩ := m
  exact .inl ⟨rfl, _, .inl (.inl hp)⟩
theorem h_bmL {ds : List D} (m : Mu K B H p ds) (h : t σ H fun xs H2 => r (.ref p) xs H2 Q) : Bm K "list" r t σ (.ref p) H Q := ⟨m.tyV, h⟩
theorem h_bmL0 {ds : List D} (m : Mu K B H p ds) (h : r (.ref p) [] H Q) : Bm0 K "list" r σ (.ref p) H Q := ⟨m.tyV, h⟩
theorem h_append {α : Type} [Enc α] {l : List α} {b : α} (w : Ex B H) (m : Mu K B H p (l.map enc)) (ry : Rep K B y (enc b)) (hz : l.length < 1000000) (h : ∀ H', Stp [p] B H B H' → Mu K B H' p ((l ++ [b]).map enc) → Q .non H') : rAppend (.ref p) [y] H Q := by
  obtain ⟨hb, xs, hp, hr⟩ := id m
  refine ⟨p, xs, y, rfl, rfl, hp, by rw [hr.length, List.length_map]; exact Nat.lt_of_lt_of_le hz (by decide), ?_⟩
  have rl : RepL K B (xs ++ [y]) ((l ++ [b]).map enc) := by
    rw [List.map_append]
    exact hr.append (.cons ry .nil)
  obtain ⟨s, m'⟩ := Stp.mut w m rl
  exact h _ s m'
theorem h_extend {α : Type} [Enc α] {l l2 : List α} (w : Ex B H) (m : Mu K B H p (l.map enc)) (m2 : Mu K B H q (l2.map enc)) (hz : l.length + l2.length ≤ 1000000) (h : ∀ H', Stp [p] B H B H' → Mu K B H' p ((l ++ l2).map enc) → Q .non H') : rExtend (.ref p) [.ref q] H Q := by
  obtain ⟨hb, xs, hp, hr⟩ := id m
  obtain ⟨hb2, ys, hp2, hr2⟩ := id m2
  refine ⟨p, q, xs, ys, rfl, rfl, hp, hp2, by rw [hr.length, hr2.length, List.length_map, List.length_map]; exact Nat.le_trans hz (by decide), ?_⟩
  have rl : RepL K B (xs ++ ys) ((l ++ l2).map enc) := by
    rw [List.map_append]
    exact hr.append hr2
  obtain ⟨s, m'⟩ := Stp.mut w m rl
  exact h _ s m'
theorem RepL.set : ∀ {vs : List V} {ds : List D} {j : Nat} {d : D}, RepL K B vs ds → Rep K B v d → RepL K B (vs.set j v) (ds.set j d)
  | _, _, _, _, .nil, _ => .nil
  | _, _, 0, _, .cons _ t, r => .cons r t
  | _, _, j + 1, _, .cons h t, r => .cons h (RepL.set t r)
theorem Post.set {α β : Type} {l : List α} {x : α} {k : List α → Res β} {P : β → Prop} {R : Err → Prop} (h : Post ((setR l i x).bind k) P R) : ∃ j, ixN l.length i = some j ∧ Post (k (l.set j x)) P R := by
  unfold setR at h
  cases e : ixN l.length i with
  | none => rw [e] at h; exact h.elim
  | some j => rw [e] at h; exact ⟨j, rfl, h⟩
def SubS (K : PySem.W.Frag) (to ti : TE) (σ : L2.St) (v : V) (H : Hp) (N : L2.St → Hp → Prop) : Prop := gSub to ti rSetL v σ H N
theorem h_sub {N : L2.St → Hp → Prop} (h : to σ H fun o H1 => ti σ H1 fun i H2 => rSetL o i v H2 fun H3 => N σ H3) : gSub to ti rSetL v σ H N := h
theorem h_asg {g : TG} (h : te σ H fun x H1 => g x σ H1 D'.nx) : tAsg te g D' σ H := h
theorem h_setL {α : Type} [Enc α] {l : List α} {b : α} {N : Hp → Prop} {j : Nat} (w : Ex B H) (m : Mu K B H p (l.map enc)) (ry : Rep K B v (enc b)) (hj : ixN l.length i = some j) (h : ∀ H', Stp [p] B H B H' → Mu K B H' p ((l.set j b).map enc) → N H') : rSetL (.ref p) (.int i) v H N := by
  obtain ⟨hb, xs, hp, hr⟩ := id m
  refine ⟨p, xs, i, j, rfl, rfl, hp, by rw [hr.length, List.length_map]; exact hj, ?_⟩
  have rl : RepL K B (xs.set j v) ((l.set j b).map enc) := by
    rw [List.map_set]
    exact hr.set ry
  obtain ⟨s, m'⟩ := Stp.mut w m rl
  exact h _ s m'
end

/-- a value with a name -/
def lt {α β : Type} (d : α) (k : α → Res β) : Res β := k d
theorem Post.lt {α β : Type} {d : α} {k : α → Res β} {P : β → Prop} {R : Err → Prop} (h : Post (Y.lt d k) P R) : Post (k d) P R := h

/-! ### lists put together, cut, compared; keywords alone -/
def rCatQ (K : PySem.W.Frag) : R2 := fun x y H Q => ∃ a b xs ys, x = .ref a ∧ y = .ref b ∧ SqL K H a xs ∧ SqL K H b ys ∧ xs.length + ys.length ≤ sizeLine ∧ NwL (xs ++ ys) H Q
theorem op_catQ {X : Cx} : OpR X (binaryOp .Add) (rCatQ X.K) := by
  intro pins s σ H x y v u Q I rx ry h
  obtain ⟨a, b, xs, ys, rfl, rfl, ha, hb, hz, q⟩ := h
  cases rx
  cases ry
  obtain ⟨its, r, p1, z1⟩ := I.list ha
  obtain ⟨its2, r2, p2, z2⟩ := I.list hb
  have hl1 := r.length
  have hl2 := r2.length
  obtain ⟨⟨cls, dd, data, sl⟩, ho, hc, n, hd⟩ := p1.isList
  obtain ⟨⟨cls2, dd2, data2, sl2⟩, ho2, hc2, n2, hd2⟩ := p2.isList
  simp only at hc hd hc2 hd2
  subst hc hd hc2 hd2
  have e : its.toArray ++ its2.toArray = (its ++ its2).toArray := by simp
  refine concat_meets ⟨_, ho, rfl⟩ ⟨_, ho2, rfl⟩ noFill_list_add seq_list_add PySem.F.slot_list_add PySem.F.entry_list_add (PySem.F.args_list_add_2 _ _) (list_addW a b its.toArray its2.toArray n n2 dd dd2 sl sl2 (by rw [List.size_toArray, List.size_toArray]; omega)) ⟨ho, ho2, ?_⟩
  rw [e]
  exact ⟨.ref _, _, I.lnew (t' := s.toks) (r.append r2) (by rw [List.length_append]; omega), rfl, q _ I.fresh⟩
def rSlQ (K : PySem.W.Frag) : V → Option Int → Option Int → Hp → VK → Prop := fun x lo hi H Q => ∃ a xs, x = .ref a ∧ SqL K H a xs ∧ NwL (cutV xs lo hi) H Q
theorem sl_Q {X : Cx} : SlR X (rSlQ X.K) := sl_list
/-- l[lo:hi] -/
def cutL {α : Type} (l : List α) (lo hi : Option Int) : List α := (l.drop (HT.sIx l.length 0 lo)).take (HT.sIx l.length l.length hi - HT.sIx l.length 0 lo)
mutual
/-- as the library's data -/
def pyD : D → PyData
  | .non => .none | .bl b => .bool b | .int i => .int i | .str x => .str x | .lst ds => .list (pyDs ds) | .tup ds => .tuple (pyDs ds) | .dic _ => .dict [] | .obj _ _ => .dict []
def pyDs : List D → List PyData
  | [] => []
  | d :: ds => pyD d :: pyDs ds
end
mutual
/-- no dict within -/
def flatD : D → Bool
  | .lst ds => flatDs ds | .tup ds => flatDs ds | .dic _ => false | .obj _ _ => false | _ => true
def flatDs : List D → Bool
  | [] => true
  | d :: ds => flatD d && flatDs ds
end
/-- == of data -/
def eqD (a b : D) : Bool := PyData.eqv (pyD a) (pyD b)
section
variable {K : PySem.W.Frag} {B B' H H' : Hp}
mutual
theorem Rep.dp (w : Ex B H) : ∀ {v : V} {d : D}, Rep K B v d → flatD d = true → Dp K H v (pyD d)
  | _, _, .non, _ => .non
  | _, _, .bl b, _ => .bl b
  | _, _, .int i, _ => .int i
  | _, _, .str x, _ => .str x
  | _, _, .lst h r, f => .lst (w.l h) (RepL.dp w r f)
  | _, _, .tup h r, f => .tup (w.t h) (RepL.dp w r f)
  | _, _, .dic h r, f => nomatch f
  | _, _, .obj h k r, f => nomatch f
theorem RepL.dp (w : Ex B H) : ∀ {vs : List V} {ds : List D}, RepL K B vs ds → flatDs ds = true → DpAll K H vs (pyDs ds)
  | _, _, .nil, _ => .nil
  | _, _, .cons h t, f => by
    have f' : (flatD _ && flatDs _) = true := f
    rw [Bool.and_eq_true] at f'
    exact .cons (Rep.dp w h f'.1) (RepL.dp w t f'.2)
end
variable {σ : L2.St} {Q : VK} {x y v : V} {d e : D} {p q : Addr} {xs ys : List V} {i j k : Int} {tc te ta tb : TE} {lo hi : Option Int} {to tu : TO}
/-- what may be compared by == here -/
def okEq (d e : D) : Prop := flatD d = true ∧ flatD e = true ∧ SeqAt.shaped (pyD d) = true ∧ SeqAt.shaped (pyD e) = true
instance (d e : D) : Decidable (okEq d e) := by unfold okEq; infer_instance
theorem h_eqD (w : Ex B H) (rx : Rep K B x d) (ry : Rep K B y e) (o : okEq d e) (h : Q (.bl (eqD d e)) H) : rEqD K x y H Q := ⟨_, _, rx.dp w o.1, ry.dp w o.2.1, o.2.2.1, o.2.2.2, h⟩
theorem h_neD (w : Ex B H) (rx : Rep K B x d) (ry : Rep K B y e) (o : okEq d e) (h : Q (.bl (!eqD d e)) H) : rNeD K x y H Q := ⟨_, _, rx.dp w o.1, ry.dp w o.2.1, o.2.2.1, o.2.2.2, h⟩
theorem h_cat (s1 : SqL K H p xs) (s2 : SqL K H q ys) (hz : xs.length + ys.length ≤ sizeLine) (h : NwL (xs ++ ys) H Q) : rCatQ K (.ref p) (.ref q) H Q := ⟨p, q, xs, ys, rfl, rfl, s1, s2, hz, h⟩
theorem RepL.cat {α : Type} [Enc α] {l l2 : List α} (r : RepL K B xs (l.map enc)) (r2 : RepL K B ys (l2.map enc)) : RepL K B (xs ++ ys) ((l ++ l2).map enc) := by
  rw [List.map_append]; exact r.append r2
theorem RepL.take : ∀ {vs : List V} {ds : List D} (n : Nat), RepL K B vs ds → RepL K B (vs.take n) (ds.take n)
  | _, _, 0, _ => .nil
  | _, _, _ + 1, .nil => .nil
  | _, _, n + 1, .cons r t => .cons r (RepL.take n t)
theorem RepL.drop : ∀ {vs : List V} {ds : List D} (n : Nat), RepL K B vs ds → RepL K B (vs.drop n) (ds.drop n)
  | _, _, 0, r => r
  | _, _, _ + 1, .nil => .nil
  | _, _, n + 1, .cons _ t => RepL.drop n t
theorem RepL.cut {α : Type} [Enc α] {l : List α} (r : RepL K B xs (l.map enc)) (lo hi : Option Int) : RepL K B (cutV xs lo hi) ((cutL l lo hi).map enc) := by
  unfold cutV cutL
  rw [List.map_take, List.map_drop, r.length, List.length_map]
  exact (r.drop _).take _
theorem h_sl {r : V → Option Int → Option Int → Hp → VK → Prop} (h : te σ H fun x H1 => to σ H1 fun l H2 => tu σ H2 fun u H3 => r x l u H3 Q) : tSl r te to tu σ H Q := h
theorem h_part {N : Option Int → Hp → Prop} (h : te σ H fun x H1 => ∃ i, x = .int i ∧ N (some i) H1) : tPart te σ H N := h
theorem h_isI {f : Int → Prop} (h : f i) : ∃ j, V.int i = .int j ∧ f j := ⟨i, rfl, h⟩
theorem h_nopart {N : Option Int → Hp → Prop} (h : N none H) : tNoPart σ H N := h
theorem h_slQ (s : SqL K H p xs) (h : NwL (cutV xs lo hi) H Q) : rSlQ K (.ref p) lo hi H Q := ⟨p, xs, rfl, s, h⟩
theorem h_ch {g g' : Int → Int → Bool} (hc : ∀ Q : VK, Q (.int k) H → tc σ H Q) (h : Q (.bl (g i j && g' j k)) H) :
    rI0 (fun i j => .bl (g i j)) (.int i) (.int j) H (fun z H3 => ∃ c, z = .bl c ∧ (if c = true then tc σ H3 fun w' H4 => rI0 (fun i j => .bl (g' i j)) (.int j) w' H4 Q else Q (.bl false) H3)) := by
  refine ⟨i, j, rfl, rfl, g i j, rfl, ?_⟩
  cases e : g i j with
  | true =>
    refine h_iteT (hc _ ?_)
    rw [e, Bool.true_and] at h
    exact ⟨j, k, rfl, rfl, h⟩
  | false =>
    rw [e, Bool.false_and] at h
    exact h_iteF h
end
/-- f(k = v, ..) -/
def tCallK0 (sp : Sp) (gV : List V → List V) (E : XK) (tk : TA) : TE := fun σ H Q => tk σ H fun zs H2 => sp (gV zs) H2 Q E
theorem pe_callK0 {X : Cx} {CX : CXT} {k : Nat} {f : Addr} {fd : FuncData} {ps ks : List Str} {sp : Sp} {E : XK} {x : Str} {p pos : Pos} {kws : List Keyword} {tk : TA} {g : List Value → List Value → List Value} {gV : List V → List V → List V}
    (F : FnOk X.prog X.w X.K X.mg X.base CX k f fd ps sp) (hr : Room k X.A) (hg : Gl X x) (hm : X.mg x = some (.ref f)) (hk : PySem.W.keepIn X.K (.ref f) = true) (hb : KBinds X.K fd ps ks g gV) (hx : Passes CX X E)
    (hkw : PK X kws tk) (hall : (backToKw pos (keywordEach kws X.env)).all (·.1.isSome) = true := by rfl) (hks : (backToKw pos (keywordEach kws X.env)).filterMap (·.1) = ks := by rfl)
    (hdb : (x == ("__debug__" : Str)) = false := by decide)
    (hpl : ((backTo pos (starEach [] X.env)).any (·.1) || (backToKw pos (keywordEach kws X.env)).any (·.1.isNone)) = false := by rfl) :
    PE X (.Call (.Name x p) [] kws pos) (tCallK0 sp (gV []) E tk) := by
  refine ⟨fun pins s σ H Q I h => ?_⟩
  refine wpAny_Call_Name_kw (ld_glob I hg hm ?_ hdb)
  refine PySem.W.callWith_KW0 (h₀ := X.base) I.ok.mod.kin hk hall ?_ hpl
  refine thn (hkw.run pos pins s σ H _ I h) fun ws s2 ⟨zs, H2, I2, rz, q2⟩ => ⟨I2.kIn, ?_⟩
  rw [hks]
  exact run_fnk F hr hb hx I2 .nil rz q2
theorem h_callK0 {σ : L2.St} {H : Hp} {Q : VK} {sp : Sp} {gV : List V → List V} {E : XK} {tk : TA} (h : tk σ H fun zs H2 => sp (gV zs) H2 Q E) : tCallK0 sp gV E tk σ H Q := h
theorem h_callK {σ : L2.St} {H : Hp} {Q : VK} {sp : Sp} {gV : List V → List V → List V} {E : XK} {t tk : TA} (h : t σ H fun vs H1 => tk σ H1 fun zs H2 => sp (gV vs zs) H2 Q E) : tCallK sp gV E t tk σ H Q := h
theorem hu64_of {A : Around} {k : Nat} (hr : Room k A) : A.units + 64 < cLine := Nat.lt_of_le_of_lt (Nat.add_le_add_left (by decide : 64 ≤ 64) _) hr.units

/-! ### dicts as data -/
section
variable {K : PySem.W.Frag} {B H : Hp} {σ : L2.St} {Q : VK} {tk tv : TE} {v : V} {d : D} {i : Int} {p : Addr} {xs : List V}
theorem h_disp1I (hk : ∀ (H' : Hp) (Q : VK), Q (.int i) H' → tk σ H' Q) (hv : ∀ (H' : Hp) (Q : VK), Q v H' → tv σ H' Q) (w : Ex B H) (rv : Rep K B v d)
    (h : ∀ p B' H', Stp [] B H B' H' → Rep K B' (.ref p) (.dic [(.inl i, d)]) → Q (.ref p) H') : tDisp [(tk, tv)] σ H Q := fun p hp => by
  show tk σ (upd H p (.dK [])) _
  refine hk _ _ (hv _ _ ⟨upd_same, [(.inl i, v)], rfl, (by show 1 ≤ 15; decide), ?_⟩)
  rw [upd_upd]
  have hb := w.none hp
  exact h p _ _ (Stp.new w hp) (.dic upd_same (.cons (rv.mono (Ex.new hb)) .nil))
theorem h_dnew (w : Ex B H) (h : ∀ p B' H', Stp [] B H B' H' → Rep K B' (.ref p) (.dic []) → Q (.ref p) H') : tDNewK σ H Q := fun p hp => h p _ _ (Stp.new w hp) (.dic upd_same .nil)
def rDictP (K : PySem.W.Frag) : List V → Hp → VK → Prop := fun xs H Q => ∃ (a : Addr) (ps : List Addr) (kvs : List (Key × V)), xs = [.ref a] ∧ SqL K H a (ps.map V.ref) ∧ Paired (fun p kv => SqT K H p [kV kv.1, kv.2]) ps kvs ∧
    ∀ p, H p = none → Q (.ref p) (upd H p (.dK (mergeK [] kvs)))
theorem cr_dict {X : Cx} (hc : X.calm = true) : CallR X (.type "dict") (rDictP X.K) := call_dictP hc
def vD : V → D
  | .int i => .int i | .bl b => .bl b | .str x => .str x | _ => .non
/-- dict(pairs of ints), as data -/
def dictI (l : List (Tp2 Int Int)) : List (Key × D) := (mergeK [] (l.map fun t => ((Sum.inl t.a : Key), V.int t.b))).map fun kv => (kv.1, vD kv.2)
theorem putK_ints {kvs : List (Key × V)} {k : Key} {j : Int} (h : ∀ kv ∈ kvs, ∃ i, kv.2 = V.int i) : ∀ kv ∈ putK kvs k (V.int j), ∃ i, kv.2 = V.int i := by
  intro kv m
  unfold putK at m
  split at m
  · obtain ⟨q, hq, e⟩ := List.mem_map.mp m
    rw [← e]
    split
    · exact ⟨j, rfl⟩
    · exact h q hq
  · rcases List.mem_append.mp m with m | m
    · exact h kv m
    · rw [List.mem_singleton.mp m]; exact ⟨j, rfl⟩
theorem merge_ints : ∀ {l : List (Tp2 Int Int)} {acc : List (Key × V)}, (∀ kv ∈ acc, ∃ i, kv.2 = V.int i) → ∀ kv ∈ mergeK acc (l.map fun t => ((Sum.inl t.a : Key), V.int t.b)), ∃ i, kv.2 = V.int i
  | [], _, h => h
  | t :: r, acc, h => merge_ints (l := r) (putK_ints h)
theorem RepK.ints : ∀ {kvs : List (Key × V)}, (∀ kv ∈ kvs, ∃ i, kv.2 = V.int i) → RepK K B kvs (kvs.map fun kv => (kv.1, vD kv.2))
  | [], _ => .nil
  | (k, v) :: r, h => by
    obtain ⟨i, e⟩ := h (k, v) List.mem_cons_self
    have e' : v = V.int i := e
    subst e'
    exact .cons (.int i) (RepK.ints fun kv m => h kv (List.mem_cons_of_mem _ m))
theorem pairs_D (w : Ex B H) : ∀ {xs : List V} {l : List (Tp2 Int Int)}, RepL K B xs (l.map enc) → ∃ ps : List Addr, xs = ps.map V.ref ∧ Paired (fun p (kv : Key × V) => SqT K H p [kV kv.1, kv.2]) ps (l.map fun t => ((Sum.inl t.a : Key), V.int t.b))
  | [], [], _ => ⟨[], rfl, .nil⟩
  | _ :: _, [], r => nomatch r
  | [], _ :: _, r => nomatch r
  | v :: vs, t :: l, r => by
    cases r with
    | cons h q =>
      obtain ⟨ps, e, pr⟩ := pairs_D w q
      obtain ⟨p, ys, rfl, hs, hr⟩ := Rep.st w (show Rep K B v (.tup [enc t.a, enc t.b]) from h)
      cases hr with
      | cons h1 t1 =>
        cases t1 with
        | cons h2 t2 =>
          cases t2
          cases h1
          cases h2
          exact ⟨p :: ps, by rw [e]; rfl, .cons hs pr⟩
theorem h_dictP {l : List (Tp2 Int Int)} (w : Ex B H) (s : SqL K H p xs) (r : RepL K B xs (l.map enc)) (h : ∀ p B' H', Stp [] B H B' H' → Rep K B' (.ref p) (.dic (dictI l)) → Q (.ref p) H') : rDictP K [.ref p] H Q := by
  obtain ⟨ps, e, pr⟩ := pairs_D w r
  subst e
  exact ⟨p, ps, _, rfl, s, pr, fun q hq => h q _ _ (Stp.new w hq) (.dic upd_same (RepK.ints (merge_ints fun _ m => nomatch m)))⟩
end
theorem RepL.toD {K : PySem.W.Frag} {B : Hp} {α : Type} [Enc α] {xs : List V} {l : List α} (r : RepL K B xs (l.map enc)) : RepL K B xs ((l.map enc : List D).map enc) := by
  have e : (l.map enc : List D).map enc = l.map enc := List.map_id' _
  rw [e]; exact r
/-- a thing that is an int -/
def asI (d : D) : Res Int := match d with | .int i => .ok i | _ => .stuck
theorem Post.asI {β : Type} {d : D} {k : Int → Res β} {P : β → Prop} {R : Err → Prop} (h : Post ((Y.asI d).bind k) P R) : ∃ i, d = .int i ∧ Post (k i) P R := by
  cases d with
  | int i => exact ⟨i, rfl, h⟩
  | _ => exact h.elim
/-- a pair taken apart -/
def un2 {α β γ : Type} (k : α → β → γ) (p : α × β) : γ := k p.1 p.2
theorem Post.un2 {α β γ : Type} {k : α → β → Res γ} {a : α} {b : β} {P : γ → Prop} {R : Err → Prop} (h : Post (Y.un2 k (a, b)) P R) : Post (k a b) P R := h
/-- a thing that is a list | a tuple -/
def asL (d : D) : Res (List D) := match d with | .lst l => .ok l | _ => .stuck
def asT (d : D) : Res (List D) := match d with | .tup l => .ok l | _ => .stuck
theorem enc_Ds (l : List D) : (l.map enc : List D) = l := List.map_id' _
theorem Post.asL {β : Type} {d : D} {k : List D → Res β} {P : β → Prop} {R : Err → Prop} (h : Post ((Y.asL d).bind k) P R) : ∃ l : List D, d = .lst (l.map enc) ∧ Post (k l) P R := by
  cases d with
  | lst l => exact ⟨l, by rw [enc_Ds], h⟩
  | _ => exact h.elim
theorem Post.asT {β : Type} {d : D} {k : List D → Res β} {P : β → Prop} {R : Err → Prop} (h : Post ((Y.asT d).bind k) P R) : ∃ l : List D, d = .tup (l.map enc) ∧ Post (k l) P R := by
  cases d with
  | tup l => exact ⟨l, by rw [enc_Ds], h⟩
  | _ => exact h.elim
section
variable {K : PySem.W.Frag} {B H : Hp} {Q : VK} {p : Addr} {xs : List V}
theorem RepL.bools : ∀ {xs : List V} {bs : List Bool}, RepL K B xs (bs.map enc) → xs = bs.map V.bl
  | [], [], _ => rfl
  | _ :: _, [], r => nomatch r
  | [], _ :: _, r => nomatch r
  | v :: vs, b :: bs, r => by
    cases r with
    | cons h t =>
      cases h
      rw [RepL.bools t]
      rfl
theorem RepL.intsV : ∀ {xs : List V} {bs : List Int}, RepL K B xs (bs.map enc) → xs = bs.map V.int
  | [], [], _ => rfl
  | _ :: _, [], r => nomatch r
  | [], _ :: _, r => nomatch r
  | v :: vs, b :: bs, r => by
    cases r with
    | cons h t =>
      cases h
      rw [RepL.intsV t]
      rfl
theorem h_all {bs : List Bool} (s : SqL K H p xs) (r : RepL K B xs (bs.map enc)) (h : Q (.bl (bs.all id)) H) : rAll K [.ref p] H Q := ⟨p, bs, rfl, by rw [← r.bools]; exact s, h⟩
theorem h_any {bs : List Bool} (s : SqL K H p xs) (r : RepL K B xs (bs.map enc)) (h : Q (.bl (bs.any id)) H) : rAny K [.ref p] H Q := ⟨p, bs, rfl, by rw [← r.bools]; exact s, h⟩
theorem h_sum {ns : List Int} (s : SqL K H p xs) (r : RepL K B xs (ns.map enc)) (h : Q (.int ns.sum) H) : rSum K [.ref p] H Q := ⟨p, ns, rfl, by rw [← r.intsV]; exact s, h⟩
end
/-! ### the top -/
/-- the law's promise -/
def spTop (K : PySem.W.Frag) : Sp := fun vs H Q _ => ∃ (a : Addr) (ns : List Int), vs = [.ref a] ∧ ns.length ≤ 63 ∧ SqL K H a (ns.map V.int) ∧ ∀ H', Q (.bl true) H'
theorem top_of {K : PySem.W.Frag} {m : List Int → Res Bool} (hm : ∀ ns : List Int, ns.length ≤ 63 → m ns = .ok true) {vs : List V} {H : Hp} {Q : VK} {E : XK} (h : spTop K vs H Q E) :
    ∃ (B : Hp) (v : V) (a : List Int), Ex B H ∧ vs = [v] ∧ Bor K B H [] v (a.map enc) ∧ Post (m a) (fun r => Ret K [] B H (enc r) Q) (fun _ => False) := by
  obtain ⟨a, ns, e, hl, hs, k⟩ := h
  refine ⟨H, .ref a, ns, Ex.refl H, e, ⟨a, _, rfl, ?_, RepL.ints ns⟩, ?_⟩
  · rcases hs with hs | hs
    · exact .inl ⟨hs, fun z => nomatch z⟩
    · exact .inr hs
  · rw [hm ns hl]
    refine ⟨fun v B' H' st r => ?_⟩
    cases r
    exact k H'
theorem walk_top {l : PySem.W.OpenLaw} {q : Program} {loose : List Str} {XP : (Str → Option Value) → Heap → Prop} {YP : World → Heap → Prop} {d : DefRec} {K : Params → PySem.W.Frag} {x : Str} {k : Nat} (hn : l.most = some 63) (hdf : d.params.defaults = [])
    (hr : Room k callerA) (hY : ∀ (w : World) (h : Heap), YP w h → (K w.params).In h)
    (F : ∀ (w : World) (mg : Str → Option Value) (fa : Addr) (h : Heap), (K w.params).In h → h.Ns mainGlobals mg → mg d.name = some (.ref fa) →
      ∃ fd : FuncData, (∀ (s : Shared) (u : Value), BindsTo s fd ⟨[u], []⟩ [(x, u)]) ∧ ∀ base : Heap, (K w.params).In base → base.Ns mainGlobals mg → FnOk l.prog w (K w.params) mg base CX0 k fa fd [x] (spTop (K w.params))) :
    PySem.W.WalkO q loose XP YP l.row.toRowW d [] (fun f vs => PySem.call f vs) :=
  L2.walk_of (n := 63) (k := k) (x := x) (CX := fun _ => CX0) (sp := fun w => spTop (K w.params)) hn (by decide) hdf hr hY F (fun _ _ a ns hl _ hS => ⟨a, ns, rfl, hl, hS, fun _ => rfl⟩) fun _ _ _ _ _ z => z
/-- how its arguments bind by keywords -/
theorem _root_.L2.Fun.kb {K : PySem.W.Frag} {x qual : Str} {st : Stmt} {f : Addr} {fd : FuncData} {ps ks : List Str} {g : List Value → List Value → List Value} {gV : List V → List V → List V} (F : Fun K x qual st f fd)
    (h : ∀ (kV doc pm : Value) (an : Option Addr) (cdv ct : Value) (us ws : List Value), (g us ws).length = ps.length → bindArgs (PySem.W.fnOf x qual (defArgs st) (defBody st) (defScope st) .none kV doc pm an cdv ct) ⟨us, ks.zip ws⟩ = pure (ps.zip (g us ws)))
    (r : ∀ {vs : List V} {us : List Value} {zs : List V} {ws : List Value}, Vals vs us → Vals zs ws → Vals (gV vs zs) (g us ws)) : KBinds K fd ps ks g gV := by
  obtain ⟨oc, od, kV, doc, pm, an, cdv, ct, osl, rfl, lk, hcd⟩ := F.ex
  exact ⟨fun s us ws _ hl => .of_eq (h kV doc pm an cdv ct us ws hl), r⟩

/-! ### while -/
def whileR {S R : Type} : Nat → S → (S → Res (Fl S R)) → Res (Fl S R)
  | 0, _, _ => .stuck
  | n + 1, s, g => (g s).bind fun r => match r with | .nx s' => whileR n s' g | r => .ok r
section
variable {K : PySem.W.Frag} {σ : L2.St} {H : Hp} {Q : VK} {tb t : TS} {c : TT} {D' : Ends} {S β : Type} {P : β → Prop} {E : Err → Prop}
theorem h_while {n : Nat} {s0 : S} {f : S → Res (Fl S β)} {k : S → Res β} (hP : Post ((whileR n s0 f).bind (afterR k)) P E) (J : S → L2.St → Hp → Prop) (h0 : J s0 σ H)
    (hb : ∀ (N : L2.St → Hp → Prop) (C : (L2.St → Hp → Prop) → Prop) (T : Fl S β → Prop) s σ' H', J s σ' H' → C N → (∀ s' σ2 H2, J s' σ2 H2 → T (.nx s') → N σ2 H2) → (∀ r, T (.rt r) → P r) → (∀ s' σ2 H2, J s' σ2 H2 → T (.bk s') → D'.nx σ2 H2) → Post (f s) T E →
      c σ' H' fun b H1 => if b = true then ∃ N, C N ∧ tb { D' with nx := N, ct := N, bk := D'.nx } σ' H1 else D'.nx σ' H1)
    (hd : ∀ s σ' H', J s σ' H' → Post (k s) P E → D'.nx σ' H') : tWhile c tb D' σ H := by
  refine ⟨fun m σ' H' => ∃ s, J s σ' H' ∧ Post (whileR m s f) (fun a => Post (afterR k a) P E) E, ⟨n, s0, h0, hP.bind⟩, ?_⟩
  rintro m σ' H' ⟨s, j, q⟩
  cases m with
  | zero => exact Post.elim q
  | succ m =>
    refine hb (fun σ2 H2 => ∃ s', J s' σ2 H2 ∧ Post (whileR m s' f) (fun a => Post (afterR k a) P E) E) (fun N => ∀ σ2 H2, N σ2 H2 → ∃ m', m' < m + 1 ∧ ∃ s, J s σ2 H2 ∧ Post (whileR m' s f) (fun a => Post (afterR k a) P E) E)
      (fun r => match r with | .nx s' => Post (whileR m s' f) (fun a => Post (afterR k a) P E) E | .rt r => Post (.ok r) P E | .bk s' => Post (k s') P E) s σ' H' j (fun σ2 H2 h => ⟨m, Nat.lt_succ_self m, h⟩)
      (fun s' σ2 H2 j2 t2 => ⟨s', j2, t2⟩) (fun r t2 => Post.ok t2) (fun s' σ2 H2 j2 t2 => hd s' σ2 H2 j2 t2) ?_
    refine (Post.bind q).mono (fun r q => ?_) fun _ q => q
    cases r with
    | nx s' => exact q
    | rt r => exact q.ok
    | bk s' => exact q.ok
theorem h_par {i j : Nat} {ta : TA} (h : ta σ H fun vs H1 => ∃ v w, vs = [v, w] ∧ D'.nx ((σ.set i (some v)).set j (some w)) H1) : tPar i j ta D' σ H := h
theorem h_two {N : V → V → Prop} {x y : V} (h : N x y) : ∃ v w, [x, y] = [v, w] ∧ N v w := ⟨x, y, rfl, h⟩

/-! ### errors -/
def tryR {α : Type} (m : Res α) (h : Err → Res α) : Res α := match m with | .ok a => .ok a | .err e => h e | .stuck => .stuck
theorem Post.tr {α : Type} {m : Res α} {h : Err → Res α} {P : α → Prop} {R : Err → Prop} (q : Post (tryR m h) P R) : Post m P (fun e => Post (h e) P R) := by
  obtain ⟨q⟩ := q
  refine ⟨?_⟩
  cases m
  · exact q
  · exact ⟨q⟩
  · exact q
theorem h_tryJ {m : Res (Fl S β)} {h : Err → Res (Fl S β)} {k : S → Res β} (hP : Post ((tryR m h).bind (afterR k)) P E) (J : S → L2.St → Hp → Prop)
    (h1 : ∀ (N : L2.St → Hp → Prop) (T : Fl S β → Prop), (∀ s σ' H', J s σ' H' → T (.nx s) → N σ' H') → (∀ r, T (.rt r) → P r) → Post m T (fun e => Post (h e) T E) → t { D' with nx := N } σ H)
    (h2 : ∀ s σ' H', J s σ' H' → Post (k s) P E → D'.nx σ' H') : t D' σ H := by
  refine h1 _ (fun a => Post (afterR k a) P E) (fun s σ' H' j q => h2 s σ' H' j q) (fun r q => (q : Post (.ok r) P E).ok) ?_
  exact (Post.bind hP).tr
/-- what the written part says of an error's class -/
structure ExcT (K : PySem.W.Frag) (mg : Str → Option Value) (nm : Str) (C : Addr) : Prop where
  g : mg nm = some (.ref C)
  ec : ExcC K C
  ty : PySem.W.typeIn K (.ref C) = some (.type "type")
  kp : PySem.W.keepIn K (.ref C) = true
  ve : PySem.W.subIn K (.ref C) (.type "ValueError") = some true
  is : PySem.W.isClsIn K C = true
  self : PySem.W.subIn K (.ref C) (.ref C) = some true
/-- an error that is raised with a text alone -/
structure ExcR (K : PySem.W.Frag) (mg : Str → Option Value) (nm : Str) (C : Addr) : Prop extends ExcT K mg nm C where
  ex : PySem.W.excIn K C [.type "ValueError", .type "Exception", .type "BaseException", .type "object"] "ValueError.__new__" = true
theorem ExcT.names {X : Cx} {nm : Str} {C : Addr} (T : ExcT X.K X.mg nm C) (hg : Gl X nm) (hd : (nm == ("__debug__" : Str)) = false) : Names X nm (.ref C) := ⟨hg, hd, .inl T.g⟩
theorem ExcT.exm {mg : Str → Option Value} {nm : Str} {C : Addr} (T : ExcT K mg nm C) {cls : Value} {b : Bool} (h : PySem.W.subIn K cls (.ref C) = some b) : PySem.W.exmOne K cls (.ref C) = some b := PySem.W.exm_ref T.ec.hs T.ec.hd T.ty h
theorem ExcT.kit {mg : Str → Option Value} {nm : Str} {C C2 : Addr} (T : ExcT K mg nm C) {b : Bool} (h : PySem.W.subIn K (.ref C2) (.ref C) = some b) : PySem.W.kitOne K (.ref C2) (.ref C) = some b := by
  unfold PySem.W.kitOne
  by_cases e : (Value.ref C2 == Value.ref C) = true
  · rw [if_pos e]
    have e2 : C2 = C := Value.ref.inj (beq_iff_eq.mp e)
    subst e2
    exact T.self.symm.trans h
  · rw [if_neg e]
    have h2 : (PySem.W.clsIn K C).isSome = true := T.is
    show (if ((PySem.W.clsIn K C).isSome && PySem.W.typeIn K (.ref C) == some (.type "type")) = true then PySem.W.subIn K (.ref C2) (.ref C) else none) = some b
    rw [if_pos (by rw [h2, T.ty] <;> rfl)]
    exact h
theorem ExcT.kitVE {mg : Str → Option Value} {nm : Str} {C : Addr} (T : ExcT K mg nm C) : PySem.W.kitOne K (.ref C) (.type "ValueError") = some true := by
  unfold PySem.W.kitOne
  rw [if_neg (by simp)]
  show (if PySem.W.kitMeta "ValueError" = true then PySem.W.subIn K (.ref C) (.type "ValueError") else none) = some true
  rw [if_pos (by decide +kernel)]
  exact T.ve
def tIsE (K : PySem.W.Frag) (a : Addr) (cls : Value) (d : Option Addr) (targs : TA) : TE := fun σ H Q => ∃ Dc, cls = .ref Dc ∧ d = none ∧ ExcC K Dc ∧ tCB (rIsE K Dc a) targs σ H Q
theorem pe_isE {X : Cx} {e : Expr} {a : Addr} {cls : Value} {d : Option Addr} {targs : TA} (hK : X.K = K) (h : ∀ Dc, cls = .ref Dc → d = none → ExcC K Dc → PE X e (tCB (rIsE K Dc a) targs)) : PE X e (tIsE K a cls d targs) :=
  ⟨fun pins s σ H Q I q => by
    obtain ⟨Dc, e1, e2, ec, q⟩ := q
    exact (h Dc e1 e2 ec).run pins s σ H Q I q⟩
theorem h_isE {a C : Addr} {targs : TA} {mg : Str → Option Value} {nm : Str} (T : ExcT K mg nm C) (h : targs σ H fun vs H1 => rIsE K C a vs H1 Q) : tIsE K a (.ref C) none targs σ H Q := ⟨C, rfl, rfl, T.ec, h⟩
theorem h_isER {a C C2 : Addr} {b : Bool} (h : PySem.W.kitOne K (.ref C) (.ref C2) = some b) (q : Q (.bl b) H) : rIsE K C a [.ref a, .ref C2] H Q := ⟨.ref C2, .ref C2, b, rfl, fun _ r => r, h, q⟩
theorem h_isEB {a C : Addr} {n : String} {b : Bool} (h : PySem.W.kitOne K (.ref C) (.type n) = some b) (q : Q (.bl b) H) : rIsE K C a [.ref a, .ty n] H Q := ⟨.ty n, .type n, b, rfl, fun _ r => r, h, q⟩
/-- the clause of a try meets the error -/
theorem h_wAs {C S' : Addr} {i : Nat} {ts : Addr → Value → Option Addr → TS} {Wout : WX} {mg : Str → Option Value} {nm : Str} (T : ExcT K mg nm S') (hs : PySem.W.subIn K (.ref C) (.ref S') = some true)
    (h : ∀ a, H a = none → ts a (.ref C) none { nx := fun σ' H' => D'.nx (σ'.set i none) H', rt := D'.rt, bk := fun σ' H' => D'.bk (σ'.set i none) H', ct := fun σ' H' => D'.ct (σ'.set i none) H' } (σ.set i (some (.ref a))) H) :
    wAs K (.ref S') i ts Wout D' (.ref C) none σ H := ⟨true, T.exm hs, fun _ a ha => h a ha, fun q => nomatch q⟩
theorem h_wOnly {C S' : Addr} {ts : Addr → Value → Option Addr → TS} {Wout : WX} {mg : Str → Option Value} {nm : Str} (T : ExcT K mg nm S') (hs : PySem.W.subIn K (.ref C) (.ref S') = some true)
    (h : ∀ a, H a = none → ts a (.ref C) none D' σ H) : wOnly K (.ref S') ts Wout D' (.ref C) none σ H := ⟨true, T.exm hs, fun _ a ha => h a ha, fun q => nomatch q⟩
end

/-! ### a try by its name -/
def tTryA (K : PySem.W.Frag) (c : Value) (i : Nat) (ts : Addr → Value → Option Addr → TS) (Wout : WX) (tb : WX → TS) : TS := fun D σ H => tb (wAs K c i ts Wout D) D σ H
def tTryO (K : PySem.W.Frag) (c : Value) (ts : Addr → Value → Option Addr → TS) (Wout : WX) (tb : WX → TS) : TS := fun D σ H => tb (wOnly K c ts Wout D) D σ H
section
variable {X : Cx} {n x : Str} {c : Value} {i : Nat} {body suite : List Stmt} {b₀ : Stmt} {np pos pos' : Pos} {tb : WX → TS} {ts : Addr → Value → Option Addr → TS} {Wout : WX} {D' : Ends} {σ : L2.St} {H : Hp} {K : PySem.W.Frag}
theorem ps_tryA (hs : X.stack = X.env :: X.outer) (hf : X.env.frame = some X.env.locals) (hN : X.N.Nodup) (hi : X.N[i]? = some n) (hln : X.env.kindOf n = some .local) (hc : Names X x c) (tk : Takes X Wout)
    (hb : ∀ (W : WX) (pn : List (Addr × Obj)) (xe : Value → Shared → Prop), Takes (X.tr pn xe) W → PassesOwn (model X.prog X.w) X.A X.env xe → PSs (X.tr pn xe) body (tb W))
    (hsu : ∀ (a : Addr) (oe : Obj) (cls : Value) (d : Option Addr) (pn : List (Addr × Obj)), Zc cls d oe → (∃ vs, oe.data = .fields vs) → PSs (X.suite a ((a, oe) :: pn)) (b₀ :: suite) (ts a cls d)) (hK : X.K = K := by rfl) :
    PS X (.Try body [.ExceptHandler (some (.Name x np)) (some n) (b₀ :: suite) pos'] [] [] pos) (tTryA K c i ts Wout tb) := hK ▸ ps_try_as hs hf hN hi hln hc tk hb hsu
theorem ps_tryO (hs : X.stack = X.env :: X.outer) (hf : X.env.frame = some X.env.locals) (hc : Names X x c) (tk : Takes X Wout)
    (hb : ∀ (W : WX) (pn : List (Addr × Obj)) (xe : Value → Shared → Prop), Takes (X.tr pn xe) W → PassesOwn (model X.prog X.w) X.A X.env xe → PSs (X.tr pn xe) body (tb W))
    (hsu : ∀ (a : Addr) (oe : Obj) (cls : Value) (d : Option Addr) (pn : List (Addr × Obj)), Zc cls d oe → (∃ vs, oe.data = .fields vs) → PSs (X.suite a ((a, oe) :: pn)) (b₀ :: suite) (ts a cls d)) (hK : X.K = K := by rfl) :
    PS X (.Try body [.ExceptHandler (some (.Name x np)) none (b₀ :: suite) pos'] [] [] pos) (tTryO K c ts Wout tb) := hK ▸ ps_try_only hs hf hc tk hb hsu
theorem h_tryA (h : tb (wAs K c i ts Wout D') D' σ H) : tTryA K c i ts Wout tb D' σ H := h
theorem h_tryO (h : tb (wOnly K c ts Wout D') D' σ H) : tTryO K c ts Wout tb D' σ H := h
end
theorem Post.mono2 {α : Type} {m : Res α} {P P' : α → Prop} {R R' : Err → Prop} (h : Post m P R) (hr : ∀ e, R e → R' e) (hp : ∀ a, P a → P' a) : Post m P' R' := h.mono hp hr
theorem boot_ValueError : bootBuiltins "ValueError" = some (.type "ValueError") := by decide +kernel
/-! ### things that are lists or tuples -/
def lenD (d : D) : Res Int := match d with | .lst l => .ok l.length | .tup l => .ok l.length | .str x => .ok x.length | _ => .stuck
section
variable {K : PySem.W.Frag} {B H : Hp} {Q : VK} {v : V} {d : D} {σ : L2.St} {g : TGs}
theorem Post.lenD {β : Type} {k : Int → Res β} {P : β → Prop} {R : Err → Prop} (h : Post ((Y.lenD d).bind k) P R) (hs : ∀ x, d ≠ .str x) : ∃ ds : List D, (d = .lst ds ∨ d = .tup ds) ∧ Post (k ds.length) P R := by
  cases d with
  | lst l => exact ⟨l, .inl rfl, h⟩
  | tup l => exact ⟨l, .inr rfl, h⟩
  | str x => exact absurd rfl (hs x)
  | _ => exact h.elim
theorem h_tupG {n : Nat} {p : Addr} {xs : List V} {N : L2.St → Hp → Prop} (s : SqT K H p xs) (hl : xs.length = n) (h : g xs σ H N) : gTup K n g (.ref p) σ H N := ⟨p, xs, rfl, s, hl, h⟩
theorem h_gcons {t : TG} {u : TGs} {x : V} {xs : List V} {N : L2.St → Hp → Prop} (h : t x σ H fun σ' H' => u xs σ' H' N) : gCons t u (x :: xs) σ H N := ⟨x, xs, rfl, h⟩
theorem h_gnil {N : L2.St → Hp → Prop} (h : N σ H) : gNil [] σ H N := ⟨rfl, h⟩
end

section
variable {K : PySem.W.Frag} {B H : Hp} {Q : VK} {p : Addr} {xs : List V} {d1 d2 d3 d4 d5 : D}
theorem h_lenTl {l : List D} (s : SqT K H p xs) (r : RepL K B xs (l.map enc)) (h : Q (.int l.length) H) : rLenY K [V.ref p] H Q := by
  refine ⟨p, xs, rfl, .inr s, ?_⟩
  rw [show xs.length = l.length from by rw [r.length, List.length_map]]
  exact h
theorem tup2 {x y : V} (hl : xs.length = 2) (h0 : atI xs 0 = some x) (h1 : atI xs 1 = some y) : xs = [x, y] := by
  match xs, hl with
  | [a, b], _ =>
    have e0 : a = x := Option.some.inj h0
    have e1 : b = y := Option.some.inj h1
    rw [e0, e1]
theorem tup3 {x y z : V} (hl : xs.length = 3) (h0 : atI xs 0 = some x) (h1 : atI xs 1 = some y) (h2 : atI xs 2 = some z) : xs = [x, y, z] := by
  match xs, hl with
  | [a, b, c], _ =>
    have e0 : a = x := Option.some.inj h0
    have e1 : b = y := Option.some.inj h1
    have e2 : c = z := Option.some.inj h2
    rw [e0, e1, e2]
theorem tup4 {x y z u : V} (hl : xs.length = 4) (h0 : atI xs 0 = some x) (h1 : atI xs 1 = some y) (h2 : atI xs 2 = some z) (h3 : atI xs 3 = some u) : xs = [x, y, z, u] := by
  match xs, hl with
  | [a, b, c, d], _ =>
    have e0 : a = x := Option.some.inj h0
    have e1 : b = y := Option.some.inj h1
    have e2 : c = z := Option.some.inj h2
    have e3 : d = u := Option.some.inj h3
    rw [e0, e1, e2, e3]
theorem RepL.open2 (r : RepL K B xs [d1, d2]) : ∃ u1 u2, xs = [u1, u2] ∧ Rep K B u1 d1 ∧ Rep K B u2 d2 := by
  cases r with | cons h1 r => cases r with | cons h2 r => cases r; exact ⟨_, _, rfl, h1, h2⟩
theorem RepL.open3 (r : RepL K B xs [d1, d2, d3]) : ∃ u1 u2 u3, xs = [u1, u2, u3] ∧ Rep K B u1 d1 ∧ Rep K B u2 d2 ∧ Rep K B u3 d3 := by
  cases r with | cons h1 r => cases r with | cons h2 r => cases r with | cons h3 r => cases r; exact ⟨_, _, _, rfl, h1, h2, h3⟩
theorem RepL.open4 (r : RepL K B xs [d1, d2, d3, d4]) : ∃ u1 u2 u3 u4, xs = [u1, u2, u3, u4] ∧ Rep K B u1 d1 ∧ Rep K B u2 d2 ∧ Rep K B u3 d3 ∧ Rep K B u4 d4 := by
  cases r with | cons h1 r => cases r with | cons h2 r => cases r with | cons h3 r => cases r with | cons h4 r => cases r; exact ⟨_, _, _, _, rfl, h1, h2, h3, h4⟩
end
/-! ### defs with defaults -/
structure FunV (K : PySem.W.Frag) (x qual : Str) (st : Stmt) (dv : List Value) (f : Addr) (fd : FuncData) : Prop where
  ex : ∃ (oc : Value) (od : Option Addr) (T : Addr) (o : Obj) (n : Nat) (kV doc pm : Value) (an : Option Addr) (cdv ct : Value) (osl : Array (Option Value)),
    fd = PySem.W.fnOf x qual (defArgs st) (defBody st) (defScope st) (.ref T) kV doc pm an cdv ct ∧ K.lookup f = some ⟨oc, od, .func fd, osl⟩ ∧ PySem.W.codeIn K cdv qual = true ∧ K.lookup T = some o ∧ o.data = .seq dv.toArray n
  kp : PySem.W.keepIn K (.ref f) = true
section
variable {P : Program} {w : World} {K : PySem.W.Frag} {mg : Str → Option Value} {base : Heap} {x qual : Str} {st : Stmt} {dv : List Value} {f : Addr} {fd : FuncData} {ps ks : List Str}
theorem funV_mk {oc : Value} {od an oT : Option Addr} {osl sT : Array (Option Value)} {kV doc pm cdv ct cT : Value} {T : Addr} {n : Nat} (l : K.lookup f = some ⟨oc, od, .func (PySem.W.fnOf x qual (defArgs st) (defBody st) (defScope st) (.ref T) kV doc pm an cdv ct), osl⟩)
    (c : PySem.W.codeIn K cdv qual = true) (k : PySem.W.keepIn K (.ref f) = true) (lT : K.lookup T = some ⟨cT, oT, .seq dv.toArray n, sT⟩) : FunV K x qual st dv f (PySem.W.fnOf x qual (defArgs st) (defBody st) (defScope st) (.ref T) kV doc pm an cdv ct) :=
  ⟨⟨oc, od, T, _, n, kV, doc, pm, an, cdv, ct, osl, rfl, l, c, lT, rfl⟩, k⟩
theorem FunV.okX {N : List Str} {k : Nat} {sp : Sp} (F : FunV K x qual st dv f fd) (S : FnScope N ps (defScope st)) (len : ∀ vs H Q E, sp vs H Q E → vs.length = ps.length)
    (hbody : ∀ (cdv : Value) (A : Around) (outer : List Env) (s : Shared) (H : Hp) (vs : List V) (Q : VK) (E : XK), Room k (A.deeper (envOfC qual (defScope st) s.heap.objs.size f cdv)) → sp vs H Q E →
      ∃ t, PSs (cxOf (L2.CX P w) P w K mg base N qual (defScope st) f cdv A outer s H E) (defBody st) t ∧ t { nx := fun _ H' => Q .non H', rt := Q } (start N vs) H) : FnOk P w K mg base (L2.CX P w) (k + 1) f fd ps sp := by
  obtain ⟨oc, od, T, o, n, kV, doc, pm, an, cdv, ct, osl, rfl, lk, hcd, _, _⟩ := F.ex
  exact fn_of lk hcd S len fun A outer s H vs Q E hr hsp => hbody cdv A outer s H vs Q E hr hsp
theorem FunV.ok {N : List Str} {k : Nat} {sp : Sp} (F : FunV K x qual st dv f fd) (S : FnScope N ps (defScope st)) (len : ∀ vs H Q E, sp vs H Q E → vs.length = ps.length)
    (hbody : ∀ (cdv : Value) (A : Around) (outer : List Env) (s : Shared) (H : Hp) (vs : List V) (Q : VK) (E : XK), Room k (A.deeper (envOfC qual (defScope st) s.heap.objs.size f cdv)) → sp vs H Q E →
      ∃ t, PSs (cxOf CX0 P w K mg base N qual (defScope st) f cdv A outer s H E).nox (defBody st) t ∧ t { nx := fun _ H' => Q .non H', rt := Q } (start N vs) H) : FnOk P w K mg base CX0 (k + 1) f fd ps sp := by
  obtain ⟨oc, od, T, o, n, kV, doc, pm, an, cdv, ct, osl, rfl, lk, hcd, _, _⟩ := F.ex
  refine fn_of lk hcd S len fun A outer s H vs Q E hr hsp => ?_
  obtain ⟨t, h, q⟩ := hbody cdv A outer s H vs Q E hr hsp
  exact ⟨t, h.nox, q⟩
/-- n values are written, the defaults behind the first j fill up -/
theorem FunV.binds (F : FunV K x qual st dv f fd) (n j : Nat) (hn : n + (dv.length - j) = ps.length)
    (h : ∀ (T : Addr) (kV doc pm : Value) (an : Option Addr) (cdv ct : Value) (us : List Value), us.length = n →
      ∃ k, bindArgs (PySem.W.fnOf x qual (defArgs st) (defBody st) (defScope st) (.ref T) kV doc pm an cdv ct) ⟨us, []⟩ = seqItems? (.ref T) >>= k ∧ k (some dv.toArray) = pure (ps.zip (us ++ dv.drop j))) : Binds K fd ps (dv.drop j) := by
  obtain ⟨oc, od, T, o, m, kV, doc, pm, an, cdv, ct, osl, rfl, lk, hcd, lT, oT⟩ := F.ex
  refine fun s us X hlen => ?_
  have l2 : us.length = n := by
    rw [List.length_append, List.length_drop] at hlen
    omega
  obtain ⟨k, e1, e2⟩ := h T kV doc pm an cdv ct us l2
  refine BindsTo.of_looks fun M => ?_
  rw [e1]
  exact looks_items X lT oT (.of_pure e2)
theorem FunV.kb {g : List Value → List Value → List Value} {gV : List V → List V → List V} (F : FunV K x qual st dv f fd)
    (h : ∀ (T : Addr) (kV doc pm : Value) (an : Option Addr) (cdv ct : Value) (us ws : List Value), (g us ws).length = ps.length → ∃ k, bindArgs (PySem.W.fnOf x qual (defArgs st) (defBody st) (defScope st) (.ref T) kV doc pm an cdv ct) ⟨us, ks.zip ws⟩ = seqItems? (.ref T) >>= k ∧ k (some dv.toArray) = pure (ps.zip (g us ws)))
    (r : ∀ {vs : List V} {us : List Value} {zs : List V} {ws : List Value}, Vals vs us → Vals zs ws → Vals (gV vs zs) (g us ws)) : KBinds K fd ps ks g gV := by
  obtain ⟨oc, od, T, o, m, kV, doc, pm, an, cdv, ct, osl, rfl, lk, hcd, lT, oT⟩ := F.ex
  refine ⟨fun s us ws X hl => ?_, r⟩
  obtain ⟨k, e1, e2⟩ := h T kV doc pm an cdv ct us ws hl
  refine BindsTo.of_looks fun M => ?_
  rw [e1]
  exact looks_items X lT oT (.of_pure e2)
end
/-! ### // by what may be negative -/
def CDivZ (_ j : Int) : Prop := j ≠ 0 ∧ j.natAbs.log2 < 9000
instance {i j : Int} : Decidable (CDivZ i j) := inferInstanceAs (Decidable (_ ∧ _))
theorem op_fdivZ {X : Cx} : OpR X (binaryOp .FloorDiv) (rI CDivZ fun i j => .int (Int.fdiv i j)) := opI fun i j _ _ _ _ _ hc q => floordiv_int hc.1 q (.inl (PyProof.noPylong_of_log2 hc.2))
/-! ### x is None -/
def isNonD : D → Bool | .non => true | _ => false
def rIsN : V → V → Hp → VK → Prop := fun x y H Q => y = .non ∧ Q (.bl (decide (x = .non))) H
def rNotN : V → V → Hp → VK → Prop := fun x y H Q => y = .non ∧ Q (.bl (!decide (x = .non))) H
theorem op_isNn {X : Cx} : OpR X (compareOp .Is) rIsN := op_isN
theorem op_notNn {X : Cx} : OpR X (compareOp .IsNot) rNotN := op_notN
section
variable {K : PySem.W.Frag} {B H : Hp} {Q : VK} {v : V} {d : D}
theorem Rep.isNon (r : Rep K B v d) : decide (v = .non) = isNonD d := by
  cases r <;> rfl
theorem h_isN (r : Rep K B v d) (h : Q (.bl (isNonD d)) H) : rIsN v .non H Q := ⟨rfl, by rw [r.isNon]; exact h⟩
theorem h_notN (r : Rep K B v d) (h : Q (.bl (!isNonD d)) H) : rNotN v .non H Q := ⟨rfl, by rw [r.isNon]; exact h⟩
end
/-! ### bool + bool, comparisons of lists, xs[::-1], xs.pop(i) -/
theorem int_add_bb (a b : Bool) : Gives (Builtin.«int.__add__» ⟨[.bool a, .bool b], []⟩) (.int ((if a = true then (1 : Int) else 0) + (if b = true then (1 : Int) else 0))) :=
  .of_wp fun M A E s Q h => by obtain ⟨hp, g, d, tk, os⟩ := s; wp_walk; exact ⟨_, rfl, h⟩
def rAddBB : V → V → Hp → VK → Prop := fun x y H Q => ∃ a b, x = .bl a ∧ y = .bl b ∧ Q (.int (b2z a + b2z b)) H
theorem op_addBB {X : Cx} : OpR X (binaryOp .Add) rAddBB := by
  intro pins s σ H x y v u Q I rx ry h
  obtain ⟨a, b, rfl, rfl, q⟩ := h
  cases rx
  cases ry
  exact binaryOp_gives (op := .Add) (T := "bool") rfl rfl F.fills_bool_add F.slot_bool_add F.entry_int_add (F.args_int_add_2 _ _) (int_add_bb a b) trivial ⟨.int (b2z a + b2z b), H, I.tok _, ⟨_, rfl⟩, q⟩
def rAddIB : V → V → Hp → VK → Prop := fun x y H Q => ∃ i k, x = .int i ∧ y = .bl k ∧ Q (.int (i + b2i k)) H
theorem op_addIB {X : Cx} : OpR X (binaryOp .Add) rAddIB := op_add_ib
section
variable {K : PySem.W.Frag} {B B' H H' : Hp} {σ : L2.St} {Q : VK} {x y v : V} {d e : D} {p q : Addr} {xs ys : List V} {te : TE}
theorem h_addBB {a b : Bool} (h : Q (.int (b2z a + b2z b)) H) : rAddBB (.bl a) (.bl b) H Q := ⟨a, b, rfl, rfl, h⟩
theorem h_addIB {i : Int} {k : Bool} (h : Q (.int (i + b2z k)) H) : rAddIB (.int i) (.bl k) H Q := ⟨i, k, rfl, rfl, by cases k <;> exact h⟩
/-- what may be compared as data -/
def Cmp (K : PySem.W.Frag) (H : Hp) (v : V) (d : D) : Prop := flatD d = true → Dp K H v (pyD d)
theorem Rep.cp (w : Ex B H) (r : Rep K B v d) : Cmp K H v d := r.dp w
theorem SqL.cp {ds : List D} (w : Ex B H) (s : SqL K H p xs) (r : RepL K B xs ds) : Cmp K H (.ref p) (.lst ds) := fun f => .lst s (RepL.dp w r f)
theorem h_eqC (rx : Cmp K H x d) (ry : Cmp K H y e) (o : okEq d e) (h : Q (.bl (eqD d e)) H) : rEqD K x y H Q := ⟨_, _, rx o.1, ry o.2.1, o.2.2.1, o.2.2.2, h⟩
theorem h_neC (rx : Cmp K H x d) (ry : Cmp K H y e) (o : okEq d e) (h : Q (.bl (!eqD d e)) H) : rNeD K x y H Q := ⟨_, _, rx o.1, ry o.2.1, o.2.2.1, o.2.2.2, h⟩
/-- xs[::-1] -/
theorem h_revL (h : te σ H fun x H1 => ∃ a xs, x = .ref a ∧ SqL K H1 a xs ∧ NwL xs.reverse H1 Q) : tRevL K te σ H Q := h
theorem h_revQ (s : SqL K H p xs) (h : NwL xs.reverse H Q) : ∃ a ys, V.ref p = .ref a ∧ SqL K H a ys ∧ NwL ys.reverse H Q := ⟨p, xs, rfl, s, h⟩
theorem RepL.rev0 : ∀ {xs : List V} {ds : List D}, RepL K B xs ds → RepL K B xs.reverse ds.reverse
  | _, _, .nil => .nil
  | _, _, .cons h t => by rw [List.reverse_cons, List.reverse_cons]; exact (RepL.rev0 t).append (.cons h .nil)
theorem RepL.rev {α : Type} [Enc α] {l : List α} (r : RepL K B xs (l.map enc)) : RepL K B xs.reverse (l.reverse.map enc) := by
  rw [List.map_reverse]
  exact RepL.rev0 r
theorem RepL.erase : ∀ {xs : List V} {ds : List D} (k : Nat), RepL K B xs ds → RepL K B (xs.eraseIdx k) (ds.eraseIdx k)
  | _, _, _, .nil => .nil
  | _, _, 0, .cons h t => t
  | _, _, k + 1, .cons h t => .cons h (RepL.erase k t)
theorem map_erase {α : Type} [Enc α] : ∀ (l : List α) (k : Nat), (l.eraseIdx k).map (enc : α → D) = (l.map enc).eraseIdx k
  | [], _ => rfl
  | _ :: _, 0 => rfl
  | x :: xs, k + 1 => congrArg (enc x :: ·) (map_erase xs k)
/-- l.pop(i), i from 0 on -/
def popR {α : Type} (l : List α) (i : Int) : Res (α × List α) := if 0 ≤ i ∧ i < (l.length : Int) ∧ l.length ≤ 1000000 then match l[i.toNat]? with | some x => .ok (x, l.eraseIdx i.toNat) | none => .stuck else .stuck
theorem Post.pop {α β : Type} {l : List α} {i : Int} {k : α × List α → Res β} {P : β → Prop} {R : Err → Prop} (h : Post ((popR l i).bind k) P R) : ∃ x, (0 ≤ i ∧ i < (l.length : Int) ∧ l.length ≤ 1000000) ∧ l[i.toNat]? = some x ∧ Post (k (x, l.eraseIdx i.toNat)) P R := by
  unfold popR at h
  by_cases c : 0 ≤ i ∧ i < (l.length : Int) ∧ l.length ≤ 1000000
  · rw [if_pos c] at h
    cases e : l[i.toNat]? with
    | none => rw [e] at h; exact h.elim
    | some x => rw [e] at h; exact ⟨x, c, rfl, h⟩
  · rw [if_neg c] at h; exact h.elim
theorem h_popL {α : Type} [Enc α] {l : List α} {i : Int} {b : α} (w : Ex B H) (m : Mu K B H p (l.map enc)) (hi : 0 ≤ i ∧ i < (l.length : Int) ∧ l.length ≤ 1000000) (hb : l[i.toNat]? = some b)
    (h : ∀ y H', Stp [p] B H B H' → Mu K B H' p ((l.eraseIdx i.toNat).map enc) → Rep K B y (enc b) → Q y H') : rPopAt (.ref p) [.int i] H Q := by
  obtain ⟨hb0, xs, hp, hr⟩ := id m
  have hl : xs.length = l.length := by rw [hr.length, List.length_map]
  obtain ⟨u, hu, ru⟩ := hr.get (i := i.toNat) (d := enc b) (by rw [List.getElem?_map, hb]; rfl)
  have rl : RepL K B (xs.eraseIdx i.toNat) ((l.eraseIdx i.toNat).map enc) := by
    rw [map_erase]
    exact RepL.erase _ hr
  refine ⟨p, xs, i, i.toNat, u, rfl, rfl, hp, by omega, by omega, ?_, hu, ?_⟩
  · unfold seqIndex?
    rw [hl]
    simp [show ¬ i < 0 from by omega, hi.1, hi.2.1]
  · obtain ⟨s, m'⟩ := Stp.mut w m rl
    exact h _ _ s m' ru
end
theorem pg_tupK {X : Cx} {pos : Pos} {es : List Expr} {k : Nat} {t : TGs} {n : Nat} {K : PySem.W.Frag} (hc : X.calm = true) (hK : X.K = K) (h : PGs X es t)
    (hn : (assignEach es X.env).length = n := by rfl) (hst : (assignEach es X.env).findIdx? (·.1) = none := by rfl) : PG X (.Tuple es k pos) (gTup K n t) := hK ▸ pg_tup hc h hn hst
/-! ### l * k, casts, constants -/
theorem list_mulW (l : Addr) (items : Array Value) (n : Nat) (dd : Option Addr) (sl : Array (Option Value)) (x : Int) (u : Tok) (hc0 : ¬(!Builtin.List.listFitsIndex x) = true) (hc1 : ¬items.size * x.toNat > (2 ^ 63 - 1) / 8) (hc2 : ¬Builtin.List.listTooLong (items.size * x.toNat) = true) :
    Meets (Builtin.«list.__mul__» ⟨[.ref l, .int x u], []⟩) (fun _ R s => s.heap.get? l = some { cls := .type "list", dict := dd, data := .seq items n, slots := sl } ∧ R (.ok (.ret (Value.ref s.heap.objs.size))) { s with heap := s.heap.push { cls := Value.type "list", data := Data.seq (List.foldl (fun x1 x2 => x1 ++ x2) #[] (List.replicate (if items.isEmpty = true then 0 else x.toNat) items)) }, toks := s.toks }) :=
  .of_wp fun prog w A R s h => by
    obtain ⟨hp, g, d, tk, os⟩ := s; obtain ⟨hl, h⟩ := h
    have hsz := PySem.AutoListH.joined_fits hc2
    wp_walk; refine wpAny_ite_false (decide_eq_false (Nat.not_lt.mpr hsz)) ?_; wp_walk; exact ⟨_, rfl, h⟩
theorem int_rmulW (a : Int) (t : Tok) (l : Addr) (items : Array Value) (n : Nat) (dd : Option Addr) (sl : Array (Option Value)) :
    Meets (Builtin.«int.__rmul__» ⟨[.int a t, .ref l], []⟩) (fun _ R s => s.heap.get? l = some { cls := .type "list", dict := dd, data := .seq items n, slots := sl } ∧ R (.ok (.ret Value.notImplemented)) s) :=
  .of_wp fun prog w A R s h => by obtain ⟨hp, g, d, tk, os⟩ := s; obtain ⟨hl, h⟩ := h; wp_walk; exact ⟨_, rfl, h⟩
def rRepQ (K : PySem.W.Frag) : R2 := fun x y H Q => ∃ l k xs, x = .ref l ∧ y = .int k ∧ SqL K H l xs ∧ -(2 ^ 63) ≤ k ∧ k < 2 ^ 63 ∧ xs.length * k.toNat ≤ sizeLine ∧ NwL (List.replicate k.toNat xs).flatten H Q
theorem op_repQ {X : Cx} : OpR X (binaryOp .Mult) (rRepQ X.K) := by
  intro pins s σ H x y v u Q I rx ry h
  obtain ⟨l, k, xs, rfl, rfl, hH, h1, h2, hz, q⟩ := h
  cases rx
  obtain ⟨t, rfl⟩ := ry
  obtain ⟨its, r, p1, z⟩ := I.list hH
  have hl := r.length
  obtain ⟨⟨cls, dd, data, sl⟩, e, hc, n, hd⟩ := p1.isList
  simp only at hc hd
  subst hc hd
  have hlen : its.toArray.size * k.toNat ≤ sizeLine := by rw [List.size_toArray, ← hl]; exact hz
  have hcap : ¬ its.toArray.size * k.toNat > (2 ^ 63 - 1) / 8 := by
    have : (sizeLine : Nat) ≤ (2 ^ 63 - 1) / 8 := by decide
    omega
  have hfit : ¬ (!Builtin.List.listFitsIndex k) = true := by
    rw [fitsIndex_both h1 h2]
    exact Bool.false_ne_true
  have hlong : ¬ Builtin.List.listTooLong (its.toArray.size * k.toNat) = true := by
    rw [notLongL hlen]
    exact Bool.false_ne_true
  have hnew : List.foldl (fun x1 x2 => x1 ++ x2) #[] (List.replicate (if its.toArray.isEmpty = true then 0 else k.toNat) its.toArray) = (List.replicate k.toNat its).flatten.toArray := by
    have f0 : ∀ m : Nat, List.foldl (fun x1 x2 => x1 ++ x2) #[] (List.replicate m its.toArray) = (List.replicate m its).flatten.toArray := fun m => by
      have := foldl_rep its m []
      rw [List.nil_append] at this
      exact this
    rw [f0]
    cases its with
    | nil => simp
    | cons a r' => rw [if_neg (by simp)]
  refine wpAny_binaryOp_repeat_ref (T := "list") (U := "int") (by decide) ⟨_, e, rfl⟩ (fun s' => typeIs_int s' k t) noFill_list_mul F.fills_int_mul F.slot_int_rmul repeat_list F.slot_int_index.lookup
    (call_meets F.slot_int_rmul (typeIs_int s k t) F.entry_int_rmul (F.args_int_rmul_2 _ _) (int_rmulW k t l its.toArray n dd sl)
      ⟨e, rfl, ⟨_, e, rfl⟩, call_meets F.slot_list_mul ⟨_, e, rfl⟩ F.entry_list_mul (F.args_list_mul_2 _ _) (list_mulW l its.toArray n dd sl k t hfit hcap hlong) ⟨e, ?_⟩⟩)
  rw [hnew]
  exact ⟨.ref _, _, I.lnew (t' := s.toks) (r.rep k.toNat) (by rw [PyProof.Rows.lm_len_rep_flat, Nat.mul_comm]; exact hz), rfl, q _ I.fresh⟩
section
variable {K : PySem.W.Frag} {B B' H H' : Hp} {σ : L2.St} {Q : VK} {x y v : V} {d e : D} {p q : Addr} {xs ys : List V} {te : TE}
theorem h_repQ {k : Int} {n : Nat} (s : SqL K H p xs) (hn : xs.length = n) (hz : n * k.toNat ≤ 1000000 ∧ -(2 ^ 62) ≤ k ∧ k < 2 ^ 62) (h : NwL (List.replicate k.toNat xs).flatten H Q) : rRepQ K (.ref p) (.int k) H Q :=
  ⟨p, k, xs, rfl, rfl, s, by omega, by omega, by rw [hn]; exact Nat.le_trans hz.1 (by decide), h⟩
theorem RepL.rep0 {ds : List D} (r : RepL K B xs ds) : ∀ k : Nat, RepL K B (List.replicate k xs).flatten (List.replicate k ds).flatten
  | 0 => .nil
  | k + 1 => by rw [List.replicate_succ, List.replicate_succ, List.flatten_cons, List.flatten_cons]; exact r.append (RepL.rep0 r k)
/-- l * k -/
def timesL {α : Type} (l : List α) (k : Int) : List α := (List.replicate k.toNat l).flatten
theorem RepL.times {α : Type} [Enc α] {l : List α} (r : RepL K B xs (l.map enc)) (k : Int) : RepL K B (List.replicate k.toNat xs).flatten ((timesL l k).map enc) := by
  have e : (timesL l k).map (enc : α → D) = (List.replicate k.toNat (l.map enc)).flatten := by
    unfold timesL
    rw [List.map_flatten, List.map_replicate]
  rw [e]
  exact r.rep0 _
/-- isinstance of a list that is only read, or of our own -/
theorem isiL {t : String} {l : List D} (s : SqL K H p xs) (q : Q (.bl (isA t (.lst l))) H) (ht : t ∈ ["bool", "int", "str", "list", "tuple", "dict"] := by simp) : rIsi K [.ref p, .ty t] H Q := by
  have ty : TyX K H (.ref p) (.type "list") := by
    rcases s with (h | ⟨o, h⟩) | ⟨o, its, n, h, hc, _⟩
    · exact .base (.lst h)
    · exact .base (.frz h)
    · exact .kList h hc
  exact ⟨.ref p, .ty t, _, .type t, isA t (.lst l), rfl, .ty t, ty, kit_ty (kit_tab _ (tyD_in (.lst l) rfl) _ ht), q⟩
end
/-! ### things read as what they are -/
class Dec (α : Type) [Enc α] where
  dec : D → Option α
  ok : ∀ d x, dec d = some x → d = enc x
instance : Dec D := ⟨fun d => some d, fun d x e => Option.some.inj e⟩
instance : Dec Int := ⟨fun d => match d with | .int i => some i | _ => none, fun d x e => by cases d <;> simp at e; rw [e]; rfl⟩
instance : Dec Bool := ⟨fun d => match d with | .bl i => some i | _ => none, fun d x e => by cases d <;> simp at e; rw [e]; rfl⟩
instance : Dec Str := ⟨fun d => match d with | .str i => some i | _ => none, fun d x e => by cases d <;> simp at e; rw [e]; rfl⟩
instance {α : Type} [Enc α] [Dec α] : Dec (Option α) := ⟨fun d => match d with | .non => some none | d => (Dec.dec d).map some, fun d x e => by
  cases d with
  | non => cases Option.some.inj e; rfl
  | _ => all_goals
    obtain ⟨y, e1, e2⟩ := Option.map_eq_some_iff.mp (show Option.map some _ = some x from e)
    rw [← e2]
    show _ = (enc y : D)
    exact Dec.ok _ _ e1⟩
instance {α β : Type} [Enc α] [Enc β] [Dec α] [Dec β] : Dec (Tp2 α β) := ⟨fun d => match d with | .tup [a, b] => (Dec.dec a).bind fun x => (Dec.dec b).bind fun y => some ⟨x, y⟩ | _ => none, fun d x e => by
  split at e
  · obtain ⟨u, e1, e⟩ := Option.bind_eq_some_iff.mp e
    obtain ⟨w, e2, e⟩ := Option.bind_eq_some_iff.mp e
    cases Option.some.inj e
    rw [Dec.ok _ _ e1, Dec.ok _ _ e2]
    rfl
  · cases e⟩
instance {α β γ : Type} [Enc α] [Enc β] [Enc γ] [Dec α] [Dec β] [Dec γ] : Dec (Tp3 α β γ) := ⟨fun d => match d with | .tup [a, b, c] => (Dec.dec a).bind fun x => (Dec.dec b).bind fun y => (Dec.dec c).bind fun z => some ⟨x, y, z⟩ | _ => none, fun d x e => by
  split at e
  · obtain ⟨u, e1, e⟩ := Option.bind_eq_some_iff.mp e
    obtain ⟨w, e2, e⟩ := Option.bind_eq_some_iff.mp e
    obtain ⟨w2, e3, e⟩ := Option.bind_eq_some_iff.mp e
    cases Option.some.inj e
    rw [Dec.ok _ _ e1, Dec.ok _ _ e2, Dec.ok _ _ e3]
    rfl
  · cases e⟩
def decs {α : Type} [Enc α] [Dec α] : List D → Option (List α)
  | [] => some []
  | d :: ds => (Dec.dec d).bind fun x => (decs ds).bind fun xs => some (x :: xs)
theorem decs_ok {α : Type} [Enc α] [Dec α] : ∀ (ds : List D) (l : List α), decs ds = some l → ds = l.map enc
  | [], l, e => by cases Option.some.inj e; rfl
  | d :: ds, l, e => by
    obtain ⟨u, e1, e⟩ := Option.bind_eq_some_iff.mp e
    obtain ⟨w, e2, e⟩ := Option.bind_eq_some_iff.mp e
    cases Option.some.inj e
    rw [Dec.ok _ _ e1, decs_ok _ _ e2]
    rfl
instance {α : Type} [Enc α] [Dec α] : Dec (List α) := ⟨fun d => match d with | .lst ds => decs ds | _ => none, fun d x e => by
  split at e
  · rw [decs_ok _ _ e]; rfl
  · cases e⟩
def asD (α : Type) [Enc α] [Dec α] (d : D) : Res α := match Dec.dec d with | some x => .ok x | none => .stuck
theorem Post.asD {α β : Type} [Enc α] [Dec α] {d : D} {k : α → Res β} {P : β → Prop} {R : Err → Prop} (h : Post ((Y.asD α d).bind k) P R) : ∃ x, d = enc x ∧ Post (k x) P R := by
  unfold Y.asD at h
  cases e : Dec.dec (α := α) d with
  | none => rw [e] at h; exact h.elim
  | some x => rw [e] at h; exact ⟨x, Dec.ok _ _ e, h⟩
/-- what is there -/
def someR {α : Type} (o : Option α) : Res α := match o with | some x => .ok x | none => .stuck
theorem Post.some {α β : Type} {o : Option α} {k : α → Res β} {P : β → Prop} {R : Err → Prop} (h : Post ((someR o).bind k) P R) : ∃ x, o = Option.some x ∧ Post (k x) P R := by
  cases o with
  | none => exact h.elim
  | some x => exact ⟨x, rfl, h⟩
/-- a constant of the module: data that is written out -/
structure CT {α : Type} [Enc α] (K : PySem.W.Frag) (mg : Str → Option Value) (nm : Str) (C : Addr) (x : α) : Prop where
  g : mg nm = Option.some (.ref C)
  rep : ∀ B, Rep K B (.ref C) (enc x)
/-! ### defs that hand a new list back; l.pop() -/
def RetF (K : PySem.W.Frag) (W : List Addr) (B H : Hp) (ds : List D) (Q : VK) : Prop := ∀ p B' H', Stp W B H B' H' → H p = none → Mu K B' H' p ds → Q (.ref p) H'
def RetMF (K : PySem.W.Frag) (q : Addr) (B H : Hp) (ds es : List D) (Q : VK) : Prop := ∀ p B' H', Stp [q] B H B' H' → H p = none → Mu K B' H' p ds → Mu K B' H' q es → Q (.ref p) H'
def popE {α : Type} (l : List α) : Res (α × List α) := match l[l.length - 1]? with | some x => .ok (x, l.dropLast) | none => .stuck
theorem Post.popE {α β : Type} {l : List α} {k : α × List α → Res β} {P : β → Prop} {R : Err → Prop} (h : Post ((Y.popE l).bind k) P R) : ∃ x, l[l.length - 1]? = Option.some x ∧ Post (k (x, l.dropLast)) P R := by
  unfold Y.popE at h
  cases e : l[l.length - 1]? with
  | none => rw [e] at h; exact h.elim
  | some x => rw [e] at h; exact ⟨x, rfl, h⟩
section
variable {K : PySem.W.Frag} {B H : Hp} {Q : VK} {p : Addr} {xs : List V}
theorem RepL.dropLast : ∀ {xs : List V} {ds : List D}, RepL K B xs ds → RepL K B xs.dropLast ds.dropLast
  | _, _, .nil => .nil
  | _, _, .cons _ .nil => .nil
  | _, _, .cons h (.cons h2 t) => .cons h (RepL.dropLast (.cons h2 t))
theorem h_popE {α : Type} [Enc α] {l : List α} {b : α} (w : Ex B H) (m : Mu K B H p (l.map enc)) (hb : l[l.length - 1]? = some b)
    (h : ∀ y H', Stp [p] B H B H' → Mu K B H' p (l.dropLast.map enc) → Rep K B y (enc b) → Q y H') : rPop (.ref p) [] H Q := by
  obtain ⟨hb0, xs, hp, hr⟩ := id m
  have hl : xs.length = l.length := by rw [hr.length, List.length_map]
  obtain ⟨u, hu, ru⟩ := hr.get (i := l.length - 1) (d := enc b) (by rw [List.getElem?_map, hb]; rfl)
  have rl : RepL K B xs.dropLast (l.dropLast.map enc) := by
    rw [List.map_dropLast]
    exact RepL.dropLast hr
  obtain ⟨s, m'⟩ := Stp.mut w m rl
  exact ⟨p, xs, u, rfl, rfl, hp, by rw [hl]; exact hu, h _ _ s m' ru⟩
end
end Y

set_option Elab.async false
set_option linter.all false
set_option maxRecDepth 100000
set_option maxHeartbeats 2000000
namespace Y
open PySem PySem.Spec PyProof.Rows
open L2
open Enc (enc)
/-! # more readings: max of two, insert, enumerate -/
theorem h_fr {t : TS} {D' : Ends} {σ σ' : L2.St} {H : Hp} (e : σ = σ') (h : t D' σ' H) : t D' σ H := by rw [e]; exact h
def maxI (i j : Int) : Int := if j > i then j else i
def rMaxY : List V → Hp → VK → Prop := fun xs H Q => ∃ i j, xs = [.int i, .int j] ∧ Q (.int (if j > i then j else i)) H
theorem cr_max {X : Cx} (hc : X.calm = true) : CallR X (.builtin "max") rMaxY := call_max2 hc
theorem h_max {i j : Int} {H : Hp} {Q : VK} (h : Q (.int (maxI i j)) H) : rMaxY [.int i, .int j] H Q := ⟨i, j, rfl, h⟩
def rInsY : V → List V → Hp → VK → Prop := fun x vs H Q => ∃ (l : Addr) (xs : List V) (i : Int) (y : V), x = .ref l ∧ vs = [.int i, y] ∧ H l = some (.lst xs) ∧ xs.length < sizeLine ∧ 0 ≤ i ∧ i < 2 ^ 63 ∧ Q .non (upd H l (.lst (xs.take i.toNat ++ [y] ++ xs.drop i.toNat)))
theorem mt_insY {X : Cx} : MtR X "list.insert" rInsY := mt_insert
def insL {α : Type} (l : List α) (i : Int) (b : α) : List α := l.take i.toNat ++ [b] ++ l.drop i.toNat
section
variable {K : PySem.W.Frag} {B B' H H' : Hp} {Q : VK} {p : Addr} {y : V} {i : Int}
theorem h_insert {α : Type} [Enc α] {l : List α} {b : α} (w : Ex B H) (m : Mu K B H p (l.map enc)) (ry : Rep K B y (enc b)) (hz : l.length < 1000000 ∧ 0 ≤ i ∧ i < 2 ^ 63) (h : ∀ H', Stp [p] B H B H' → Mu K B H' p ((insL l i b).map enc) → Q .non H') : rInsY (.ref p) [.int i, y] H Q := by
  obtain ⟨hb, xs, hp, hr⟩ := id m
  refine ⟨p, xs, i, y, rfl, rfl, hp, by rw [hr.length, List.length_map]; exact Nat.lt_of_lt_of_le hz.1 (by decide), hz.2.1, hz.2.2, ?_⟩
  have rl : RepL K B (xs.take i.toNat ++ [y] ++ xs.drop i.toNat) ((insL l i b).map enc) := by
    unfold insL
    rw [List.map_append, List.map_append, List.map_take, List.map_drop]
    exact ((hr.take _).append (.cons ry .nil)).append (hr.drop _)
  obtain ⟨s, m'⟩ := Stp.mut w m rl
  exact h _ s m'
end
/-- the things with their places -/
def enumL {α : Type} (l : List α) : List (Tp2 Int α) := l.mapIdx fun i x => ⟨(i : Int), x⟩
def En (K : PySem.W.Frag) (vs : List V) (g : TG) (tb : TS) (D' : Ends) (σ : L2.St) (H : Hp) : Prop := tFor (iEnum K (fun _ H Q => Q vs H)) g tb D' σ H
section
variable {K : PySem.W.Frag} {σ : L2.St} {B H : Hp} {p : Addr} {xs : List V} {tb : TS} {D' : Ends} {g : TG} {α β S : Type} {P : β → Prop} {R : Err → Prop}
theorem h_enumE {ta : TA} (h : ta σ H fun vs H1 => En K vs g tb D' σ H1) : tFor (iEnum K ta) g tb D' σ H := h
theorem h_forEn [Enc α] {l : List α} {s0 : S} {f : Tp2 Int α → S → Res (Fl S β)} {k : S → Res β} (hP : Post ((forR (enumL l) s0 f).bind (afterR k)) P R) (hs : SqL K H p xs) (hr : RepL K B xs (l.map enc))
    (J : S → L2.St → Hp → Prop) (h0 : J s0 σ H) (hl : ∀ s σ' H', J s σ' H' → SqL K H' p xs)
    (hb : ∀ (N : L2.St → Hp → Prop) (T : Fl S β → Prop) (x : Tp2 Int α) u s σ' H', J s σ' H' → Rep K B u (enc x.b) → (∀ s' σ2 H2, J s' σ2 H2 → T (.nx s') → N σ2 H2) → (∀ r, T (.rt r) → P r) → (∀ s' σ2 H2, J s' σ2 H2 → T (.bk s') → D'.nx σ2 H2) → Post (f x s) T R →
      NewT [.int x.a, u] H' fun v H1 => g v σ' H1 fun σ2 H2 => tb { D' with nx := N, ct := N, bk := D'.nx } σ2 H2)
    (hd : ∀ s σ' H', J s σ' H' → Post (k s) P R → D'.nx σ' H') : En K [.ref p] g tb D' σ H := by
  refine ⟨p, xs, rfl, hs, for_it (n := xs.length) walk_enum (fun i σ' H' => ∃ s, J s σ' H' ∧ Post (forR ((enumL l).drop i) s f) (fun a => Post (afterR k a) P R) R) ⟨s0, h0, hP.bind⟩ (fun i σ' H' _ ⟨s, j, _⟩ => hl s σ' H' j) ?_ ?_⟩
  · rintro i v σ' H' H2 hi ⟨s, j, q⟩ ⟨T, y1, y2, rfl, hT, rfl, h1, h2⟩
    cases Option.some.inj h1
    have hll : xs.length = l.length := by rw [hr.length, List.length_map]
    have hil : i < l.length := by omega
    have hx : (enumL l)[i]? = some ⟨(i : Int), l[i]⟩ := by
      unfold enumL
      rw [List.getElem?_mapIdx, List.getElem?_eq_getElem hil]
      rfl
    obtain ⟨u, hu, ru⟩ := hr.get (i := i) (d := enc l[i]) (by rw [List.getElem?_map, List.getElem?_eq_getElem hil]; rfl)
    have h2 : xs[i]? = some y2 := h2
    rw [h2] at hu; cases hu
    exact (hb _ _ ⟨(i : Int), l[i]⟩ y2 s σ' H' j ru (fun s' σ2 H2 j2 t2 => ⟨s', j2, t2⟩) (fun r t2 => (t2 : Post (.ok r) P R).ok) (fun s' σ2 H2 j2 t2 => hd s' σ2 H2 j2 t2) (q.turn hx)).2 T hT
  · rintro σ' H' ⟨s, j, q⟩
    exact hd s σ' H' j (q.forN (by unfold enumL; rw [List.length_mapIdx, hr.length, List.length_map]; exact Nat.le_refl _))
end
end Y

set_option Elab.async false
set_option linter.all false
set_option maxRecDepth 100000
set_option maxHeartbeats 4000000
namespace Y
open PySem PySem.Spec PyProof.Rows
open L2
/-! # a try whose clauses may each have a name -/
/-- a clause: what it names, the slot of its name, its suite's reading -/
structure Cl where
  c : Value
  nm : Option Nat
  ts : Addr → Value → Option Addr → TS
def Cl.ends (k : Cl) (D : Ends) : Ends := match k.nm with
  | none => D
  | some i => ⟨fun σ H => D.nx (σ.set i none) H, D.rt, fun σ H => D.bk (σ.set i none) H, fun σ H => D.ct (σ.set i none) H⟩
def Cl.slots (k : Cl) (σ : L2.St) (a : Addr) : L2.St := match k.nm with | none => σ | some i => σ.set i (some (.ref a))
def wMix (K : PySem.W.Frag) (Wout : WX) (D : Ends) : List Cl → WX
  | [] => Wout
  | k :: r => fun cls d σ H => ∃ b, PySem.W.exmOne K cls k.c = some b ∧ (b = true → ∀ a, H a = none → k.ts a cls d (k.ends D) (k.slots σ a) H) ∧ (b = false → wMix K Wout D r cls d σ H)
abbrev SuOk (X : Cx) (b₀ : Stmt) (su : List Stmt) (ts : Addr → Value → Option Addr → TS) : Prop :=
  ∀ (a : Addr) (oe : Obj) (cls : Value) (d : Option Addr) (pn : List (Addr × Obj)), Zc cls d oe → (∃ vs, oe.data = .fields vs) → PSs (X.suite a ((a, oe) :: pn)) (b₀ :: su) (ts a cls d)
inductive Mix (X : Cx) : List ExceptHandler → List Cl → Prop
  | nil : Mix X [] []
  | plain {x : Str} {c : Value} {ts : Addr → Value → Option Addr → TS} {b₀ : Stmt} {su : List Stmt} {p q : Pos} {hs : List ExceptHandler} {ks : List Cl}
      (hc : Names X x c) (hsu : SuOk X b₀ su ts) (r : Mix X hs ks) : Mix X (.ExceptHandler (some (.Name x p)) none (b₀ :: su) q :: hs) (⟨c, none, ts⟩ :: ks)
  | named {x n : Str} {i : Nat} {c : Value} {ts : Addr → Value → Option Addr → TS} {b₀ : Stmt} {su : List Stmt} {p q : Pos} {hs : List ExceptHandler} {ks : List Cl}
      (hN : X.N.Nodup) (hi : X.N[i]? = some n) (hl : X.env.kindOf n = some .local) (hc : Names X x c) (hsu : SuOk X b₀ su ts) (r : Mix X hs ks) : Mix X (.ExceptHandler (some (.Name x p)) (some n) (b₀ :: su) q :: hs) (⟨c, some i, ts⟩ :: ks)
/-- the exception is in flight here: what was known ahead of it -/
structure Fly (X : Cx) (a : Addr) (B : Heap) (sI s1 : Shared) (pins : List (Addr × Obj)) (σ : L2.St) (H : Hp) (cls : Value) (d : Option Addr) (h : Heap) : Prop where
  J : Inv X pins σ H sI
  nb : ∀ b o, sI.heap.get? b = some o → b ∉ frs X.stack → B.get? b = some o
  up : sI.heap.UpToSlots h
  na : H a = none
  os : s1.os = sI.os
  ag : AllBare s1.gens
  fl : HandSPX.FlyingZ B (X.env :: X.outer) a (Zc cls d) h
section
variable {X : Cx} {a : Addr} {B : Heap} {sI s1 : Shared} {pins : List (Addr × Obj)} {σ : L2.St} {H : Hp} {cls : Value} {d : Option Addr} {h : Heap}
theorem Fly.inv (F : Fly X a B sI s1 pins σ H cls d h) : Inv X pins σ H { s1 with heap := h } := F.J.landed F.nb F.fl.1 F.up F.os F.ag
theorem Fly.apart (F : Fly X a B sI s1 pins σ H cls d h) (hf : X.env.frame = some X.env.locals) (hs : X.stack = X.env :: X.outer) : a ≠ X.env.locals ∧ a ∉ X.fs := by
  obtain ⟨oe, vs, he, hz, hd⟩ := F.fl.there
  have key : ∀ e ∈ X.env :: X.outer, e.frame ≠ some a := fun e me q => by
    obtain ⟨_, o, ho, hn⟩ := F.fl.2.2.1.mem (List.mem_filterMap.mpr ⟨e, me, q⟩)
    rw [he] at ho
    cases ho
    exact hn _ hd
  exact ⟨fun z => key X.env List.mem_cons_self (by rw [hf, z]), fun m => by
    obtain ⟨e, me, q⟩ := List.mem_filterMap.mp m
    exact key e (List.mem_cons_of_mem _ me) q⟩
end
section
variable {X : Cx} {body : List Stmt} {h₀ : ExceptHandler} {hds : List ExceptHandler} {ks : List Cl} {pos : Pos} {tb : WX → TS} {Wout : WX}
/-- none of the clauses is right: it goes on -/
theorem fly_on {a : Addr} {B : Heap} {sI s1 : Shared} {pins : List (Addr × Obj)} {σ : L2.St} {H : Hp} {cls : Value} {d : Option Addr} {h : Heap} {Q : Flow → Shared → Prop} (hs : X.stack = X.env :: X.outer) (hf : X.env.frame = some X.env.locals) (tk : Takes X Wout)
    (F : Fly X a B sI s1 pins σ H cls d h) (w : Wout cls d σ H) : wpAny (model X.prog X.w) X.A (handleBy (.ref a) X.env []) Q X.xe { s1 with heap := h } := by
  apply wpAny_handleBy_nil
  have fl := F.fl
  obtain ⟨_, _, _, oe, vs, T, oT, tsl, he, hz, hd, h1, hr⟩ := fl
  have up1 : wpAny (model X.prog X.w) X.A (setFlight (.ref a) X.env.frame) (fun _ z => wpAny (model X.prog X.w) X.A (throw (.ref a) : Sem Flow) Q X.xe z) X.xe { s1 with heap := h } := by
    rw [hf]
    apply HandSPX.setFlight_upZ F.fl
    intro k hk uk
    apply wpAny_throw
    exact tk _ _ ⟨a, B, sI, pins, σ, H, cls, d, rfl, F.J, F.nb, F.up.trans uk, .inr (.inr (by rw [hs]; exact hk)), F.na, F.os, F.ag, w⟩
  unfold PySem.passOn
  apply wpAny_bind
  apply wpAny_field he hd h1
  rw [if_neg (show ¬ ((Value.ref T == Value.none) = true) from by simp)]
  first
    | exact wpAny_bind (wpAny_pure (wpAny_bind up1))
    | exact wpAny_bind up1
theorem fly_mix {a : Addr} {B : Heap} {sI s1 : Shared} {pins : List (Addr × Obj)} {σ : L2.St} {H : Hp} {cls : Value} {d : Option Addr} {h : Heap} {D : Ends} (hs : X.stack = X.env :: X.outer) (hf : X.env.frame = some X.env.locals) (tk : Takes X Wout) (ok : X.Ok)
    (F : Fly X a B sI s1 pins σ H cls d h) : ∀ {hds : List ExceptHandler} {ks : List Cl}, Mix X hds ks → wMix X.K Wout D ks cls d σ H → wpAny (model X.prog X.w) X.A (handleBy (.ref a) X.env hds) (SP X pins D) X.xe { s1 with heap := h } := by
  intro hds ks M
  obtain ⟨oe, vs, he, hz, hd⟩ := F.fl.there
  obtain ⟨nL, nF⟩ := F.apart hf hs
  have S := F.inv.suite he hd F.na nL nF
  have LT : PySem.W.Looks (model X.prog X.w) h (typeOf (.ref a)) cls := fun A Q E s k q => wpAny_typeOf_ref (k _ _ he) (by rw [hz.1]; exact q)
  have named : ∀ {x : Str} {c : Value} {np : Pos}, Names X x c → ∀ {Q E : Value → Shared → Prop}, Q c { s1 with heap := h } → wpAny (model X.prog X.w) (X.A.mark (some (.ref a))) (eval (.Name x np) X.env) Q E { s1 with heap := h } := by
    intro x c np hc Q E q
    rcases hc with ⟨g, db, g2 | ⟨g2, g3, g4⟩⟩
    · exact ld_glob (X := X.suite a ((a, oe) :: (X.pn ++ pins))) S g g2 q db
    · exact ld_blt (X := X.suite a ((a, oe) :: (X.pn ++ pins))) S g g2 g3 q g4 db
  induction M with
  | nil => exact fun w => fly_on hs hf tk F w
  | @plain x c ts b₀ su p q hs' ks' hc hsu r ih =>
    rintro ⟨b, hb, yes, no⟩
    apply wpAny_handleBy_cons (codeAny_handlers_test ?_) (by intro z; cases z)
    apply named hc
    apply (PySem.W.exm_one (M := model X.prog X.w) F.inv.kIn LT hb).here
    cases b
    · exact ih (no rfl)
    · apply codeAny_handlers_suite
      apply HandSPX.lands_againZ F.fl
      intro k fk uk
      have F' : Fly X a B sI s1 pins σ H cls d k := ⟨F.J, F.nb, F.up.trans uk, F.na, F.os, F.ag, fk⟩
      obtain ⟨oe', vs', he', hz', hd'⟩ := fk.there
      have S' := F'.inv.suite he' hd' F.na nL nF
      apply wpAny_mono ((hsu a oe' cls d (X.pn ++ pins) hz' ⟨_, hd'⟩).run [] _ _ H _ S' (yes rfl a F.na)) ?_ (fun _ _ z => z.elim)
      intro f t ht
      cases f <;> obtain ⟨σ6, ht⟩ := ht
      case ret => obtain ⟨σ7, H7, S7, r7, q7⟩ := ht; exact ⟨_, _, _, S7.unsuite ok, r7, q7⟩
      all_goals (obtain ⟨H6, S6, q6⟩ := ht; exact ⟨_, _, S6.unsuite ok, q6⟩)
  | @named x n i c ts b₀ su p q hs' ks' hN hi hl hc hsu r ih =>
    rintro ⟨b, hb, yes, no⟩
    apply wpAny_handleBy_cons (codeAny_handlers_test ?_) (by intro z; cases z)
    apply named hc
    apply (PySem.W.exm_one (M := model X.prog X.w) F.inv.kIn LT hb).here
    cases b
    · exact ih (no rfl)
    · apply codeAny_handlers_suite_as
      apply HandSPX.lands_againZ F.fl
      intro k fk uk
      have F' : Fly X a B sI s1 pins σ H cls d k := ⟨F.J, F.nb, F.up.trans uk, F.na, F.os, F.ag, fk⟩
      obtain ⟨oe', vs', he', hz', hd'⟩ := fk.there
      have S' := F'.inv.suite he' hd' F.na nL nF
      have hx : Loc X.env.scope n := .inl hl
      refine store_ok (X := X.suite a ((a, oe') :: (X.pn ++ pins))) (v := .ref a) S' hN hi hx rfl (fun t2 T2 => ?_) (.inr hl)
      apply wpAny_mono ((hsu a oe' cls d (X.pn ++ pins) hz' ⟨_, hd'⟩).run [] t2 _ H _ T2 (yes rfl a F.na)) ?_ (fun _ _ z => z.elim)
      intro f t ht
      have leave : ∀ {σ6 : L2.St} {H6 : Hp} {Q : Shared → Prop}, Inv (X.suite a ((a, oe') :: (X.pn ++ pins))) [] σ6 H6 t → (∀ t7, Inv X pins (σ6.set i none) H6 t7 → Q t7) →
          wpAny (model X.prog X.w) X.A (do bindName X.env n .none; unbindBehindTheSuite X.env n q) (fun _ t7 => Q t7) X.xe t := fun S6 hq => gone_ok (S6.unsuite ok) hN hi hl hq
      cases f <;> obtain ⟨σ6, ht⟩ := ht
      case ret => obtain ⟨σ7, H7, S7, r7, q7⟩ := ht; exact leave S7 fun t7 J7 => ⟨_, _, _, J7, r7, q7⟩
      all_goals (obtain ⟨H6, S6, q6⟩ := ht; exact leave S6 fun t7 J7 => ⟨_, _, J7, q6⟩)
def tTryM (K : PySem.W.Frag) (ks : List Cl) (Wout : WX) (tb : WX → TS) : TS := fun D σ H => tb (wMix K Wout D ks) D σ H
theorem ps_tryM {K : PySem.W.Frag} (hs : X.stack = X.env :: X.outer) (hf : X.env.frame = some X.env.locals) (tk : Takes X Wout)
    (hb : ∀ (W : WX) (pn : List (Addr × Obj)) (xe : Value → Shared → Prop), Takes (X.tr pn xe) W → PassesOwn (model X.prog X.w) X.A X.env xe → PSs (X.tr pn xe) body (tb W))
    (M : Mix X (h₀ :: hds) ks) (hK : X.K = K := by rfl) : PS X (.Try body (h₀ :: hds) [] [] pos) (tTryM K ks Wout tb) := by
  subst hK
  refine ⟨fun pins s σ H D I h => ?_⟩
  have ok := I.ok
  have hfr : X.A.frames = some (X.env :: X.outer) := by rw [ok.frames, hs]
  apply wpAny_Try_except
  refine wpAny_mono ((hb (wMix X.K Wout D ks) (X.pn ++ pins) _ ?_ PassesOwn.looking).run [] s σ H D (I.toTry _) h) ?_ (fun e t he => he)
  · intro u t xx
    obtain ⟨a, B, sI, pins', σ', H', cls, d, rfl, J', nb, up, sky, na, os, ag, w⟩ := xx
    rw [show (X.tr (X.pn ++ pins) _).stack = X.env :: X.outer from hs] at sky
    refine Sky.land Zc.steady hfr hf sky fun k fk uk => ?_
    exact fly_mix hs hf tk ok (D := D) ⟨J'.ofTry ok, nb, up.trans uk, na, os, ag, fk⟩ M w
  · intro f t ht
    cases f
    case ret => obtain ⟨v, σ', H', J', r, q⟩ := ht; exact ⟨v, σ', H', J'.ofTry ok, r, q⟩
    case next => obtain ⟨σ', H', J', q⟩ := ht; exact wpAny_execs_nil ⟨σ', H', J'.ofTry ok, q⟩
    all_goals (obtain ⟨σ', H', J', q⟩ := ht; exact ⟨σ', H', J'.ofTry ok, q⟩)
end

/-! ## isinstance of the exception, several classes -/
def rIsET (K : PySem.W.Frag) (D a : Addr) : List V → Hp → VK → Prop := fun xs H Q => ∃ (tp : Addr) (cs : List V) (us : List Value) (b : Bool), xs = [.ref a, .ref tp] ∧ H tp = some (.tup cs) ∧ Paired ClsV cs us ∧ PySem.W.kitAny K (.ref D) us = some b ∧ Q (.bl b) H
theorem call_isET {X : Cx} {a D : Addr} {oe : Obj} {pn : List (Addr × Obj)} (C : ExcC X.K D) (hz : Zc (.ref D) none oe) (hf : ∃ vs, oe.data = .fields vs) : CallR (X.suite a ((a, oe) :: pn)) (.builtin "isinstance") (rIsET X.K D a) := by
  rintro pins s σ H _ us Q I r ⟨tp, cs, ws, b, rfl, hT, k, e, q⟩
  obtain ⟨u1, u2, rfl, r1, r2⟩ := r.two
  cases (show u1 = Value.ref a from r1)
  cases (show u2 = Value.ref tp from r2)
  have hget := (I.pin (a, oe) (List.mem_append.mpr (.inl List.mem_cons_self))).1
  obtain ⟨vs, hv⟩ := hf
  obtain ⟨h1, h2⟩ := hz
  obtain ⟨c0, d0, dt0, sl0⟩ := oe
  dsimp only at h1 h2 hv
  subst h1 h2 hv
  have J : PySem.W.InstAt s.heap a ⟨.ref D, none, .fields vs, sl0⟩ D none := ⟨hget, rfl, rfl, trivial⟩
  obtain ⟨_, its, rv, o, g1, g2, n, g3⟩ := (show ObjOk X.prog X.w H s.heap tp (.tup cs) from I.hok tp _ hT)
  have e3 := ClsV.all k rv
  subst e3
  obtain ⟨oc, od, dt, sl⟩ := o
  dsimp only at g2 g3
  subst g2 g3
  exact PySem.W.kia_tup (PySem.W.handS_kitx_exc C.hg C.hk C.hs C.hd C.ha C.hn C.ht C.hm) I.kIn J g1 e (fun z => nomatch z) fun tk => ⟨.bl b, H, I.kept (t' := tk) fun _ _ z => z, rfl, q⟩
def tIsET (K : PySem.W.Frag) (a : Addr) (cls : Value) (d : Option Addr) (targs : TA) : TE := fun σ H Q => ∃ Dc, cls = .ref Dc ∧ d = none ∧ ExcC K Dc ∧ tCB (rIsET K Dc a) targs σ H Q
section
variable {K : PySem.W.Frag} {σ : L2.St} {B H : Hp} {Q : VK} {D' : Ends} {Wout : WX} {k : Cl} {r : List Cl} {mg : Str → Option Value} {nm : Str}
theorem pe_isET {X : Cx} {e : Expr} {a : Addr} {cls : Value} {d : Option Addr} {targs : TA} (hK : X.K = K) (h : ∀ Dc, cls = .ref Dc → d = none → ExcC K Dc → PE X e (tCB (rIsET K Dc a) targs)) : PE X e (tIsET K a cls d targs) :=
  ⟨fun pins s σ H Q I q => by
    obtain ⟨Dc, e1, e2, ec, q⟩ := q
    exact (h Dc e1 e2 ec).run pins s σ H Q I q⟩
theorem h_isET {a C : Addr} {targs : TA} (T : ExcT K mg nm C) (h : targs σ H fun vs H1 => rIsET K C a vs H1 Q) : tIsET K a (.ref C) none targs σ H Q := ⟨C, rfl, rfl, T.ec, h⟩
theorem kitA_nil {t : Value} : PySem.W.kitAny K t [] = some false := rfl
theorem kitA_f {t c : Value} {r : List Value} {b : Bool} (h : PySem.W.kitOne K t c = some false) (hr : PySem.W.kitAny K t r = some b) : PySem.W.kitAny K t (c :: r) = some b := by
  unfold PySem.W.kitAny
  rw [h]
  exact hr
theorem kitA_t {t c : Value} {r : List Value} (h : PySem.W.kitOne K t c = some true) : PySem.W.kitAny K t (c :: r) = some true := by
  unfold PySem.W.kitAny
  rw [h]
/-- a tuple of classes that was just laid -/
theorem h_clsTup {xs : List V} (w : Ex B H) (hn : xs.length ≤ sizeLine) (h : ∀ p, Stp [] B H B (upd H p (.tup xs)) → Q (.ref p) (upd H p (.tup xs))) : NewT xs H Q := ⟨hn, fun p hp => h p (Stp.newM w hp)⟩
theorem h_isETR {a C tp : Addr} {xs : List V} {us : List Value} {b : Bool} (hp : Paired ClsV xs us) (e : PySem.W.kitAny K (.ref C) us = some b) (q : Q (.bl b) (upd H tp (.tup xs))) : rIsET K C a [.ref a, .ref tp] (upd H tp (.tup xs)) Q := ⟨tp, xs, us, b, rfl, upd_same, hp, e, q⟩
/-- the clause meets the error -/
theorem h_mixHitA {C S' : Addr} {i : Nat} {ts : Addr → Value → Option Addr → TS} (T : ExcT K mg nm S') (hs : PySem.W.subIn K (.ref C) (.ref S') = some true)
    (h : ∀ a, H a = none → ts a (.ref C) none ⟨fun σ H => D'.nx (σ.set i none) H, D'.rt, fun σ H => D'.bk (σ.set i none) H, fun σ H => D'.ct (σ.set i none) H⟩ (σ.set i (some (.ref a))) H) : wMix K Wout D' (⟨.ref S', some i, ts⟩ :: r) (.ref C) none σ H :=
  ⟨true, T.exm hs, fun _ a ha => h a ha, fun q => nomatch q⟩
theorem h_mixHitO {C S' : Addr} {ts : Addr → Value → Option Addr → TS} (T : ExcT K mg nm S') (hs : PySem.W.subIn K (.ref C) (.ref S') = some true)
    (h : ∀ a, H a = none → ts a (.ref C) none D' σ H) : wMix K Wout D' (⟨.ref S', none, ts⟩ :: r) (.ref C) none σ H :=
  ⟨true, T.exm hs, fun _ a ha => h a ha, fun q => nomatch q⟩
theorem h_mixSkip {C S' : Addr} (hc : k.c = .ref S') (T : ExcT K mg nm S') (hs : PySem.W.subIn K (.ref C) (.ref S') = some false) (h : wMix K Wout D' r (.ref C) none σ H) : wMix K Wout D' (k :: r) (.ref C) none σ H :=
  ⟨false, by rw [hc]; exact T.exm hs, (fun q => nomatch q), fun _ => h⟩
theorem h_tryM {ks : List Cl} {tb : WX → TS} (h : tb (wMix K Wout D' ks) D' σ H) : tTryM K ks Wout tb D' σ H := h
end

/-! ## a list of lists of our own -/
def Raw (B H : Hp) (p : Addr) (xs : List V) : Prop := B p = none ∧ H p = some (.lst xs)
section
variable {K : PySem.W.Frag} {B B' H H' : Hp} {W : List Addr} {p q : Addr} {xs : List V} {Q : VK} {d e : D} {v u : V}
theorem Raw.step (m : Raw B H p xs) (s : Stp W B H B' H') (h : p ∉ W) : Raw B' H' p xs := ⟨s.nw p _ m.1 m.2, s.fr p _ h m.2⟩
theorem Raw.ne (m : Raw B H p xs) (h : H q = none) : p ≠ q := ne_of_none m.2 h
theorem Raw.kp {r : Addr} (m : Raw B H q xs) (_ : Ex B B') (k : ∀ q, q ≠ r → B q = none → B' q = none) (n : q ≠ r) : Raw B' H q xs := ⟨k q n m.1, m.2⟩
theorem Raw.sq (m : Raw B H p xs) : SqL K H p xs := SqL.of m.2
theorem h_newRaw (w : Ex B H) (hn : xs.length ≤ sizeLine) (h : ∀ p H', H p = none → Stp [] B H B H' → Raw B H' p xs → Q (.ref p) H') : NewL xs H Q := ⟨hn, fun p hp => h p _ hp (Stp.newM w hp) ⟨w.none hp, upd_same⟩⟩
theorem Cmp.pair (s : SqL K H p [v, u]) (h : Cmp K H v d) (h' : Cmp K H u e) : Cmp K H (.ref p) (.lst [d, e]) := fun f => by
  have f' : (flatD d && (flatD e && true)) = true := f
  simp only [Bool.and_true, Bool.and_eq_true] at f'
  exact .lst s (.cons (h f'.1) (.cons (h' f'.2) .nil))
end
end Y

/-! # a local name that holds a def -/
namespace Y
open PySem PySem.Spec PyProof.Rows
open L2
section
variable {X : Cx} {CX : CXT} {k : Nat} {f : Addr} {fd : FuncData} {ps : List Str} {sp : Sp} {dvs : List V} {ds : List Value} {E : L2.St → XK} {x : Str} {p pos : Pos} {e : Expr} {es : List Expr} {t tl : TA}
def tCallLS (i : Nat) (f : Addr) (sp : Sp) (dvs : List V) (E : L2.St → XK) (t : TA) : TE := fun σ H Q => σ[i]? = some (some (.ref f)) ∧ t σ H fun vs H1 => sp (vs ++ dvs) H1 Q (E σ)
theorem atOf {E : XK} (h : Passes CX X E) : ∀ σ, PassesAt CX X σ ((fun _ : L2.St => E) σ) := fun σ pins H s e s' I c => h pins σ H s e s' I c
theorem pe_callLS (i : Nat) (F : FnOk X.prog X.w X.K X.mg X.base CX k f fd ps sp) (hr : Room k X.A) (hk : PySem.W.keepIn X.K (.ref f) = true) (hb : L2.Binds X.K fd ps ds) (hd : Vals dvs ds) (hx : ∀ σ, PassesAt CX X σ (E σ)) (ha : PA X (e :: es) t)
    (hN : X.N[i]? = some x := by rfl) (hv : Vis X.env.scope x := by first | exact Or.inl rfl | exact Or.inr (Or.inl rfl) | exact Or.inr (Or.inr rfl))
    (hdb : (x == ("__debug__" : Str)) = false := by decide) (hcd : (x == ("__classdict__" : Str)) = false := by decide)
    (he : starEach (e :: es) X.env = (false, eval e X.env) :: starEach es X.env := by rfl) (hpl : (backTo pos (starEach es X.env)).any (·.1) = false := by rfl) : PE X (.Call (.Name x p) (e :: es) [] pos) (tCallLS i f sp dvs E t) := by
  refine ⟨fun pins s σ H Q I h => ?_⟩
  obtain ⟨hs, ht⟩ := h
  refine wpAny_Call_Name_kw (thn ((pe_var (pos := p) hN hv hdb hcd).run pins s σ H (fun v H1 => v = .ref f ∧ H1 = H) I ⟨.ref f, hs, rfl, rfl⟩) fun u s1 ⟨v, H1, I1, r1, q1⟩ => ?_)
  obtain ⟨rfl, rfl⟩ := q1
  cases r1
  refine PySem.W.callWith_K (h₀ := X.base) I.ok.mod.kin hk (thn (ha.run pos pins s1 σ _ _ I1 ht) fun us s2 ⟨vs, H2, I2, r, q⟩ => ⟨I2.kIn, ?_⟩) he hpl
  exact run_fnSD F hr hb hd (hx σ) I2 r q
theorem h_callLS {i : Nat} {σ : L2.St} {H : Hp} {Q : VK} (hs : σ[i]? = some (some (.ref f))) (h : tl σ H fun vs H1 => sp (vs ++ dvs) H1 Q (E σ)) : tCallLS i f sp dvs E tl σ H Q := ⟨hs, h⟩
end
end Y

set_option Elab.async false
set_option linter.all false
set_option maxRecDepth 100000
set_option maxHeartbeats 4000000
namespace Y
open PySem PySem.Spec PyProof.Rows
open L2
/-! # instances of the text's classes that stay as they are -/
/-- a class of the text, a name of the module -/
structure KI (K : PySem.W.Frag) (mg : Str → Option Value) (nm : Str) (C : Addr) : Prop extends KC K nm C where
  g : mg nm = some (.ref C)
  ty : PySem.W.typeIn K (.ref C) = some (.type "type")
  is : PySem.W.isClsIn K C = true
  self : PySem.W.subIn K (.ref C) (.ref C) = some true
theorem bt_of {K : PySem.W.Frag} {C : Addr} (a : PySem.W.subIn K (.ref C) (.type "bool") = some false) (b : PySem.W.subIn K (.ref C) (.type "int") = some false) (c : PySem.W.subIn K (.ref C) (.type "str") = some false)
    (d : PySem.W.subIn K (.ref C) (.type "list") = some false) (e : PySem.W.subIn K (.ref C) (.type "tuple") = some false) (f : PySem.W.subIn K (.ref C) (.type "dict") = some false) :
    ∀ t ∈ ["bool", "int", "str", "list", "tuple", "dict"], PySem.W.subIn K (.ref C) (.type t) = some false := by
  intro t ht
  simp only [List.mem_cons, List.not_mem_nil, or_false] at ht
  rcases ht with rfl | rfl | rfl | rfl | rfl | rfl
  · exact a
  · exact b
  · exact c
  · exact d
  · exact e
  · exact f
section
variable {K : PySem.W.Frag} {mg : Str → Option Value} {nm nm' f m : Str} {C C' C2 p dx : Addr} {B H B' H' : Hp} {fs : List (Str × V)} {ds : List (Str × D)} {d : D} {v : V} {Q : VK} {b : Bool} {σ : L2.St} {ta : TE} {tab : List (Str × Bool)}
theorem KC.uniq (k : KC K nm C) (k' : KC K nm C') : C = C' := by
  have := k.a.symm.trans k'.a
  cases this
  rfl
theorem KI.kit (T : KI K mg nm C) (h : PySem.W.subIn K (.ref C2) (.ref C) = some b) : PySem.W.kitOne K (.ref C2) (.ref C) = some b := by
  unfold PySem.W.kitOne
  by_cases e : (Value.ref C2 == Value.ref C) = true
  · rw [if_pos e]
    have e2 : C2 = C := Value.ref.inj (beq_iff_eq.mp e)
    subst e2
    exact T.self.symm.trans h
  · rw [if_neg e]
    have h2 : (PySem.W.clsIn K C).isSome = true := T.is
    show (if ((PySem.W.clsIn K C).isSome && PySem.W.typeIn K (.ref C) == some (.type "type")) = true then PySem.W.subIn K (.ref C2) (.ref C) else none) = some b
    rw [if_pos (by rw [h2, T.ty] <;> rfl)]
    exact h
theorem sub_bt (C : Addr) : ∀ s ∈ ["NoneType", "bool", "int", "str", "list", "tuple", "dict"], PySem.W.subIn K (.type s) (.ref C) = some false := by
  intro s hs
  simp only [List.mem_cons, List.not_mem_nil, or_false] at hs
  rcases hs with rfl | rfl | rfl | rfl | rfl | rfl | rfl <;> rfl
theorem KI.kitB (T : KI K mg nm C) {s : String} (hs : s ∈ ["NoneType", "bool", "int", "str", "list", "tuple", "dict"]) : PySem.W.kitOne K (.type s) (.ref C) = some false := by
  unfold PySem.W.kitOne
  rw [if_neg (by simp)]
  have h2 : (PySem.W.clsIn K C).isSome = true := T.is
  show (if ((PySem.W.clsIn K C).isSome && PySem.W.typeIn K (.ref C) == some (.type "type")) = true then PySem.W.subIn K (.type s) (.ref C) else none) = some false
  rw [if_pos (by rw [h2, T.ty] <;> rfl)]
  exact sub_bt C s hs
/-- isinstance(x, an own class): the classes that are known, and whether each is under it -/
def isCR (tab : List (Str × Bool)) (d : D) : Res Bool := match d with
  | .obj nm _ => (match tab.lookup nm with | some b => .ok b | none => .stuck)
  | _ => .ok false
theorem Post.isC {β : Type} {k : Bool → Res β} {P : β → Prop} {R : Err → Prop} (h : Post ((isCR tab d).bind k) P R) : ∃ b, isCR tab d = .ok b ∧ Post (k b) P R := by
  cases e : isCR tab d with
  | ok b => rw [e] at h; exact ⟨b, rfl, h⟩
  | err x =>
    cases d with
    | obj nm ds =>
      have e' : (match tab.lookup nm with | Option.some b => Res.ok b | Option.none => .stuck) = Res.err x := e
      cases q : tab.lookup nm <;> rw [q] at e' <;> exact nomatch e'
    | _ => exact nomatch e
  | stuck => rw [e] at h; exact h.elim
def TabOk (K : PySem.W.Frag) (C : Addr) : List (Str × Bool) → Prop
  | [] => True
  | (nm, b) :: r => (∃ C2, KC K nm C2 ∧ PySem.W.subIn K (.ref C2) (.ref C) = some b) ∧ TabOk K C r
theorem TabOk.get : ∀ {tab : List (Str × Bool)}, TabOk K C tab → tab.lookup nm = some b → ∃ C2, KC K nm C2 ∧ PySem.W.subIn K (.ref C2) (.ref C) = some b
  | [], _, e => nomatch e
  | (x, y) :: r, h, e => by
    have e' : (match nm == x with | true => some y | false => r.lookup nm) = some b := e
    by_cases q : (nm == x) = true
    · rw [q] at e'
      cases e'
      rw [beq_iff_eq.mp q]
      exact h.1
    · rw [Bool.eq_false_iff.mpr q] at e'
      exact TabOk.get h.2 e'
theorem h_isK (w : Ex B H) (r : Rep K B v d) (T : KI K mg nm C) (tb : TabOk K C tab) (e : isCR tab d = .ok b) (q : Q (.bl b) H) : rIsi K [v, .ref C] H Q := by
  by_cases hd : isObjD d = true
  · cases r with
    | @obj p C' dx nm' fs ds h k r =>
      have e' : (match tab.lookup nm' with | some b => Res.ok b | none => .stuck) = Res.ok b := e
      cases l : tab.lookup nm' with
      | none => rw [l] at e'; exact nomatch e'
      | some y =>
        rw [l] at e'
        cases e'
        obtain ⟨C2, k2, hs⟩ := tb.get l
        rw [k2.uniq k] at hs
        exact ⟨_, .ref C, .ref C', .ref C, b, rfl, .own C, k.tyx (w _ _ h), T.kit hs, q⟩
    | _ => exact nomatch hd
  · have hd := Bool.eq_false_iff.mpr hd
    have eb : b = false := by
      cases d with
      | obj nm ds => exact nomatch hd
      | _ => cases e; rfl
    subst eb
    exact ⟨v, .ref C, _, .ref C, false, rfl, .own C, r.ty w hd, T.kitB (tyD_in d hd), q⟩
theorem RepF.get : ∀ {fs : List (Str × V)} {ds : List (Str × D)}, RepF K B fs ds → ds.lookup f = some d → ∃ v, fs.lookup f = some v ∧ Rep K B v d
  | _, _, .nil, e => nomatch e
  | _, _, @RepF.cons _ _ k v d' vs ds h t, e => by
    have e' : (match f == k with | true => some d' | false => ds.lookup f) = some d := e
    show ∃ u, (match f == k with | true => some v | false => vs.lookup f) = some u ∧ _
    cases q : f == k with
    | true =>
      rw [q] at e'
      cases e'
      exact ⟨v, rfl, h⟩
    | false =>
      rw [q] at e'
      exact RepF.get t e'
theorem RepF.none : ∀ {fs : List (Str × V)} {ds : List (Str × D)}, RepF K B fs ds → ds.lookup f = Option.none → fs.lookup f = Option.none
  | _, _, .nil, _ => rfl
  | _, _, @RepF.cons _ _ k v d' vs ds h t, e => by
    have e' : (match f == k with | true => some d' | false => ds.lookup f) = Option.none := e
    show (match f == k with | true => some v | false => vs.lookup f) = Option.none
    cases q : f == k with
    | true => rw [q] at e'; exact nomatch e'
    | false =>
      rw [q] at e'
      exact RepF.none t e'
theorem Rep.ins (w : Ex B H) (r : Rep K B v (.obj nm ds)) (T : KC K nm C) : ∃ p dx fs, v = .ref p ∧ H p = some (.ins C dx fs) ∧ RepF K B fs ds := by
  cases r with
  | @obj p C' dx _ fs _ h k r =>
    have e := T.uniq k
    subst e
    exact ⟨p, dx, fs, rfl, w _ _ h, r⟩
/-! ### a field -/
def Fld (K : PySem.W.Frag) (f : Str) (x : V) (H : Hp) (Q : VK) : Prop := ∃ a C dx fs v, x = .ref a ∧ H a = some (.ins C dx fs) ∧ Cls K C ∧ NoAttr K C f ∧ fs.lookup f = some v ∧ Q v H
theorem h_fldE (h : ta σ H fun x H1 => Fld K f x H1 Q) : tFld K ta f σ H Q := h
theorem h_fld (w : Ex B H) (r : Rep K B v (.obj nm ds)) (T : KC K nm C) (n : NoAttr K C f) (e : ds.lookup f = some d) (h : ∀ u, Rep K B u d → Q u H) : Fld K f v H Q := by
  obtain ⟨p, dx, fs, rfl, hp, rf⟩ := r.ins w T
  obtain ⟨u, hu, ru⟩ := rf.get e
  exact ⟨p, C, dx, fs, u, rfl, hp, T.c, n, hu, h u ru⟩
/-! ### C(..) -/
/-- an __init__ that lays these fields, in this order -/
def LaysOk (K : PySem.W.Frag) (C : Addr) : List Str → Prop
  | [] => True
  | f :: r => NoAttr K C f ∧ LaysOk K C r
def spInit (K : PySem.W.Frag) (ns : List Str) : Sp := fun vs H Q _ => ∃ (C p dx : Addr) (us : List V), vs = .ref p :: us ∧ us.length = ns.length ∧ H p = some (.ins C dx []) ∧ Cls K C ∧ LaysOk K C ns ∧ Q .non (upd H p (.ins C dx (ns.zip us)))
theorem h_made (w : Ex B H) (hp : H p = none) (hx : H dx = none) (ne : dx ≠ p) (T : KC K nm C) (r : RepF K B fs ds) (h : ∀ B' H', Stp [] B H B' H' → Rep K B' (.ref p) (.obj nm ds) → Q (.ref p) H') : Q (.ref p) (upd (upd (upd H dx (.own p)) p (.ins C dx [])) p (.ins C dx fs)) := by
  rw [upd_upd]
  have s1 : Stp [] B H (upd B dx (.own p)) (upd H dx (.own p)) := Stp.new w hx
  have hp' : (upd H dx (.own p)) p = none := by rw [upd_ne ne.symm]; exact hp
  have s2 : Stp [] (upd B dx (.own p)) (upd H dx (.own p)) (upd (upd B dx (.own p)) p (.ins C dx fs)) (upd (upd H dx (.own p)) p (.ins C dx fs)) := Stp.new s1.ok hp'
  exact h _ _ (s1.trans s2) (.obj upd_same T (r.mono (s1.trans s2).ex))
theorem h_make {ns : List Str} {E : XK} {us : List V} (hl : us.length = ns.length) (w : Ex B H) (T : KC K nm C) (lo : LaysOk K C ns) (r : RepF K B (ns.zip us) ds) (h : ∀ p B' H', Stp [] B H B' H' → Rep K B' (.ref p) (.obj nm ds) → Q (.ref p) H') :
    ∀ x dx, H x = none → H dx = none → dx ≠ x → spInit K ns (.ref x :: us) (upd (upd H dx (.own x)) x (.ins C dx [])) (fun v H2 => v = .non ∧ Q (.ref x) H2) E := fun x dx hx hdx ne =>
  ⟨C, x, dx, us, rfl, hl, upd_same, T.c, lo, rfl, h_made w hx hdx ne T r fun B' H' s rr => h x B' H' s rr⟩
end
/-! ### o.m(..) of one of several classes -/
structure MAlt (P : Program) (wo : World) (K : PySem.W.Frag) (mg : Str → Option Value) (base : Heap) (CX : CXT) (k : Nat) (m : Str) (C : Addr) (sp : Sp) : Prop where
  ex : ∃ (f : Addr) (fd : FuncData) (ps : List Str), Cls K C ∧ Meth K C m f ∧ FnOk P wo K mg base CX k f fd ps sp ∧ L2.Binds K fd ps []
def tMethP (A : Addr → Sp → Prop) (m : Str) (E : L2.St → XK) (ta : TE) (t : TA) : TE := fun σ H Q => ta σ H fun x H1 => ∃ a C dx fs sp, x = .ref a ∧ H1 a = some (.ins C dx fs) ∧ A C sp ∧ fs.lookup m = none ∧ t σ H1 fun vs H2 => sp (x :: vs) H2 Q (E σ)
section
variable {X : Cx} {CX : CXT} {k : Nat} {E : L2.St → XK} {m : Str} {pos apos : Pos} {e o : Expr} {es : List Expr} {ta : TE} {t : TA} {A : Addr → Sp → Prop}
theorem pe_methP {pl : Sem Bool} (he : PE X o ta) (hA : ∀ C sp, A C sp → MAlt X.prog X.w X.K X.mg X.base CX k m C sp) (hr : Room k X.A) (hx : ∀ σ, PassesAt CX X σ (E σ)) (ha : PA X (e :: es) t)
    (hst : starEach (e :: es) X.env = (false, eval e X.env) :: starEach es X.env := by rfl) (hpl : (backTo pos (starEach es X.env)).any (·.1) = false := by rfl)
    (ht : eval (.Call (.Attribute o m apos) (e :: es) [] pos) X.env = (do
      let ov ← eval o X.env
      standAt apos.atName
      let (f, first) ← holding [ov] (getMethod ov m pl)
      callWith pos f first (backTo pos (starEach (e :: es) X.env)) (backToKw pos (keywordEach [] X.env))) := by rfl) :
    PE X (.Call (.Attribute o m apos) (e :: es) [] pos) (tMethP A m E ta t) := by
  refine ⟨fun pins s σ H Q I h => ?_⟩
  refine PySem.W.methodCall_KW (pl := pl) (thn (he.run pins s σ H _ I h) fun u s1 ⟨x, H1, I1, rx, a, C, dx, fs, sp, ex, ea, hAC, l, q⟩ => ?_) ht
  subst ex
  obtain rfl : u = Value.ref a := rx
  obtain ⟨f, fd, ps, c, hm, F, hb⟩ := (hA C sp hAC).ex
  refine getmeth_ok I1 ea c hm l ?_
  refine PySem.W.callWith_K (first := [.ref a]) (h₀ := X.base) I.ok.mod.kin hm.kp (thn (ha.run pos pins s1 σ H1 _ I1 q) fun us s2 ⟨vs, H2, I2, r, q2⟩ => ⟨I2.kIn, ?_⟩) hst hpl
  exact run_fnSD (us := .ref a :: us) (vs := .ref a :: vs) (dvs := []) (ds := []) F hr hb .nil (hx σ) I2 (.cons rfl r) (by rw [List.append_nil]; exact q2)
theorem pe_methP0 {pl : Sem Bool} (he : PE X o ta) (hA : ∀ C sp, A C sp → MAlt X.prog X.w X.K X.mg X.base CX k m C sp) (hr : Room k X.A) (hx : ∀ σ, PassesAt CX X σ (E σ))
    (ht : eval (.Call (.Attribute o m apos) [] [] pos) X.env = (do
      let ov ← eval o X.env
      standAt apos.atName
      let (f, first) ← holding [ov] (getMethod ov m pl)
      callWith pos f first (backTo pos (starEach [] X.env)) (backToKw pos (keywordEach [] X.env))) := by rfl) :
    PE X (.Call (.Attribute o m apos) [] [] pos) (tMethP A m E ta tNil) := by
  refine ⟨fun pins s σ H Q I h => ?_⟩
  refine PySem.W.methodCall_KW (pl := pl) (thn (he.run pins s σ H _ I h) fun u s1 ⟨x, H1, I1, rx, a, C, dx, fs, sp, ex, ea, hAC, l, q⟩ => ?_) ht
  subst ex
  obtain rfl : u = Value.ref a := rx
  obtain ⟨f, fd, ps, c, hm, F, hb⟩ := (hA C sp hAC).ex
  refine getmeth_ok I1 ea c hm l ?_
  exact PySem.W.callWith_K0 (first := [.ref a]) I1.kIn hm.kp (run_fnSD (us := [.ref a]) (vs := [.ref a]) (dvs := []) (ds := []) F hr hb .nil (hx σ) I1 (.cons rfl .nil) (by rw [List.append_nil]; exact q))
end
section
variable {K : PySem.W.Frag} {σ : L2.St} {H : Hp} {Q : VK} {A : Addr → Sp → Prop} {m : Str} {E : L2.St → XK} {ta : TE} {t : TA} {C : Addr} {sp : Sp} {dvs : List V} {E0 : XK}
theorem h_methE (h : ta σ H fun x H1 => ∃ a C dx fs sp, x = .ref a ∧ H1 a = some (.ins C dx fs) ∧ A C sp ∧ fs.lookup m = none ∧ t σ H1 fun vs H2 => sp (x :: vs) H2 Q (E σ)) : tMethP A m E ta t σ H Q := h
theorem h_makeE (h : t σ H fun vs H1 => ∀ x dx, H1 x = none → H1 dx = none → dx ≠ x → sp (.ref x :: (vs ++ dvs)) (upd (upd H1 dx (.own x)) x (.ins C dx [])) (fun v H2 => v = .non ∧ Q (.ref x) H2) E0) : tMake C sp dvs E0 t σ H Q := h
theorem lk0 {α : Type} {f : Str} {d : α} {r : List (Str × α)} : List.lookup f ((f, d) :: r) = some d := by
  show (match f == f with | true => some d | false => r.lookup f) = some d
  rw [beq_self_eq_true]
theorem lkS {α : Type} {f g : Str} {d e : α} {r : List (Str × α)} (h : (f == g) = false) (t : List.lookup f r = some d) : List.lookup f ((g, e) :: r) = some d := by
  show (match f == g with | true => some e | false => r.lookup f) = some d
  rw [h]
  exact t
theorem lkN {α : Type} {f g : Str} {e : α} {r : List (Str × α)} (h : (f == g) = false) (t : List.lookup f r = none) : List.lookup f ((g, e) :: r) = none := by
  show (match f == g with | true => some e | false => r.lookup f) = none
  rw [h]
  exact t
theorem lkE {α : Type} {f : Str} : List.lookup f ([] : List (Str × α)) = none := rfl
theorem putS {f g : Str} {v u : V} {r q : List (Str × V)} (h : ¬ g = f) (e : putF f v r = q) : putF f v ((g, u) :: r) = (g, u) :: q := by
  show (if g = f then (g, v) :: r else (g, u) :: putF f v r) = _
  rw [if_neg h, e]
theorem putE {f : Str} {v : V} : putF f v [] = [(f, v)] := rfl
end
/-! ### C(.., k = v) -/
def tMakeB (C : Addr) (sp : Sp) (gV : List V → List V → List V) (E : XK) (t tk : TA) : TE := fun σ H Q => t σ H fun vs H1 => tk σ H1 fun zs H2 =>
  ∀ x dx, H2 x = none → H2 dx = none → dx ≠ x → sp (gV (.ref x :: vs) zs) (upd (upd H2 dx (.own x)) x (.ins C dx [])) (fun v H3 => v = .non ∧ Q (.ref x) H3) E
section
variable {X : Cx} {CX : CXT} {k : Nat} {f C : Addr} {fd : FuncData} {ps ks : List Str} {sp : Sp} {E : XK} {x : Str} {p pos : Pos} {e : Expr} {es : List Expr} {kws : List Keyword} {t tk : TA} {g : List Value → List Value → List Value} {gV : List V → List V → List V}
theorem run_makeB {pins : List (Addr × Obj)} {σ : L2.St} {H : Hp} {s : Shared} {Q : VK} {us ws : List Value} {vs zs : List V} (M : Mk X.K C f) (F : FnOk X.prog X.w X.K X.mg X.base CX k f fd ps sp) (hr : Room (k + 1) X.A) (hb : KBinds X.K fd ps ks g gV)
    (hx : Passes CX X E) (I : Inv X pins σ H s) (r : Vals vs us) (rz : Vals zs ws)
    (h : ∀ x dx, H x = none → H dx = none → dx ≠ x → sp (gV (.ref x :: vs) zs) (upd (upd H dx (.own x)) x (.ins C dx [])) (fun v H2 => v = .non ∧ Q (.ref x) H2) E) :
    wpAny (model X.prog X.w) X.A (call (.ref C) us (ks.zip ws)) (EP X pins σ Q) X.xe s := by
  have hq := h (s.heap.objs.size + 1) s.heap.objs.size (I.hok.fresh (Nat.le_succ _)) (I.hok.fresh (Nat.le_refl _)) (Nat.ne_of_lt (Nat.lt_succ_self _))
  have I2 := Inv.made (C := C) I
  have r1 : Vals (V.ref (s.heap.objs.size + 1) :: vs) (Value.ref (s.heap.objs.size + 1) :: us) := .cons rfl r
  have r2 := hb.rel r1 rz
  have hl : (g (Value.ref (s.heap.objs.size + 1) :: us) ws).length = ps.length := by rw [← r2.length]; exact F.len _ _ _ _ hq
  refine wpAny_call (make_map (f := f) I.kIn M.makes M.init (beq_iff_eq.mp M.fn) (codeAny_mono (F.run _ X.stack _ _ ⟨Value.ref (s.heap.objs.size + 1) :: us, ks.zip ws⟩ (g (Value.ref (s.heap.objs.size + 1) :: us) ws) _ _ E (hr.make C us (ks.zip ws))
    (I2.env0.make C us (ks.zip ws)) (hb.to _ (Value.ref (s.heap.objs.size + 1) :: us) ws I2.kIn hl) r2 hq) fun r s' hq' => ?_))
  cases r with
  | error e => exact hx pins σ _ _ e s' I2 hq'
  | ok fl =>
    cases fl with
    | ret u =>
      obtain ⟨v, H', I3, rv, ev, q3⟩ := I2.after hq'
      subst ev
      exact ⟨rv, ⟨V.ref (s.heap.objs.size + 1), H', I3, rfl, q3⟩⟩
    | next => exact False.elim hq'
    | brk => exact False.elim hq'
    | cont => exact False.elim hq'
theorem pe_makeB (M : Mk X.K C f) (F : FnOk X.prog X.w X.K X.mg X.base CX k f fd ps sp) (hr : Room (k + 1) X.A) (hg : Gl X x) (hm : X.mg x = some (.ref C)) (hb : KBinds X.K fd ps ks g gV) (hx : Passes CX X E)
    (ha : PA X (e :: es) t) (hkw : PK X kws tk) (hall : (backToKw pos (keywordEach kws X.env)).all (·.1.isSome) = true := by rfl) (hks : (backToKw pos (keywordEach kws X.env)).filterMap (·.1) = ks := by rfl)
    (hdb : (x == ("__debug__" : Str)) = false := by decide) (he : starEach (e :: es) X.env = (false, eval e X.env) :: starEach es X.env := by rfl)
    (hpl : ((backTo pos (starEach (e :: es) X.env)).any (·.1) || (backToKw pos (keywordEach kws X.env)).any (·.1.isNone)) = false := by rfl) :
    PE X (.Call (.Name x p) (e :: es) kws pos) (tMakeB C sp gV E t tk) := by
  refine ⟨fun pins s σ H Q I h => ?_⟩
  refine wpAny_Call_Name_kw (ld_glob I hg hm ?_ hdb)
  refine PySem.W.callWith_KW (h₀ := X.base) I.ok.mod.kin M.kp hall (thn (ha.run pos pins s σ H _ I h) fun us s1 ⟨vs, H1, I1, r, q⟩ => ?_) hpl he
  refine thn (hkw.run pos pins s1 σ H1 _ I1 q) fun ws s2 ⟨zs, H2, I2, rz, q2⟩ => ⟨I2.kIn, ?_⟩
  rw [hks]
  exact run_makeB M F hr hb hx I2 r rz q2
theorem pe_makeB0 (M : Mk X.K C f) (F : FnOk X.prog X.w X.K X.mg X.base CX k f fd ps sp) (hr : Room (k + 1) X.A) (hg : Gl X x) (hm : X.mg x = some (.ref C)) (hb : KBinds X.K fd ps ks g gV) (hx : Passes CX X E) (hkw : PK X kws tk)
    (hall : (backToKw pos (keywordEach kws X.env)).all (·.1.isSome) = true := by rfl) (hks : (backToKw pos (keywordEach kws X.env)).filterMap (·.1) = ks := by rfl) (hdb : (x == ("__debug__" : Str)) = false := by decide)
    (hpl : ((backTo pos (starEach [] X.env)).any (·.1) || (backToKw pos (keywordEach kws X.env)).any (·.1.isNone)) = false := by rfl) :
    PE X (.Call (.Name x p) [] kws pos) (tMakeB C sp gV E tNil tk) := by
  refine ⟨fun pins s σ H Q I h => ?_⟩
  refine wpAny_Call_Name_kw (ld_glob I hg hm ?_ hdb)
  refine PySem.W.callWith_KW0 (h₀ := X.base) I.ok.mod.kin M.kp hall ?_ hpl
  refine thn (hkw.run pos pins s σ H _ I h) fun ws s2 ⟨zs, H2, I2, rz, q2⟩ => ⟨I2.kIn, ?_⟩
  rw [hks]
  exact run_makeB (us := []) (vs := []) M F hr hb hx I2 .nil rz q2
theorem h_makeBE {σ : L2.St} {H : Hp} {Q : VK} (h : t σ H fun vs H1 => tk σ H1 fun zs H2 => ∀ x dx, H2 x = none → H2 dx = none → dx ≠ x → sp (gV (.ref x :: vs) zs) (upd (upd H2 dx (.own x)) x (.ins C dx [])) (fun v H3 => v = .non ∧ Q (.ref x) H3) E) : tMakeB C sp gV E t tk σ H Q := h
end
section
variable {K : PySem.W.Frag} {B H : Hp} {σ : L2.St} {Q : VK} {tk tv : TE} {v : V} {d : D} {x : Str}
theorem h_disp1S (hk : ∀ (H' : Hp) (Q : VK), Q (.str x) H' → tk σ H' Q) (hv : ∀ (H' : Hp) (Q : VK), Q v H' → tv σ H' Q) (w : Ex B H) (rv : Rep K B v d)
    (h : ∀ p B' H', Stp [] B H B' H' → Rep K B' (.ref p) (.dic [(.inr x, d)]) → Q (.ref p) H') : tDisp [(tk, tv)] σ H Q := fun p hp => by
  show tk σ (upd H p (.dK [])) _
  refine hk _ _ (hv _ _ ⟨upd_same, [(.inr x, v)], rfl, (by show 1 ≤ 15; decide), ?_⟩)
  rw [L2.upd_upd]
  have hb := w.none hp
  exact h p _ _ (Stp.new w hp) (.dic upd_same (.cons (rv.mono (Ex.new hb)) .nil))
end
/-! ### C.m(..), a def of the class C -/
def tClsF (C : Addr) (sp : Sp) (dvs : List V) (E : XK) (ta : TE) (t : TA) : TE := fun σ H Q => ta σ H fun x H1 => x = .ref C ∧ t σ H1 fun vs H2 => sp (vs ++ dvs) H2 Q E
section
variable {X : Cx} {CX : CXT} {k : Nat} {E : XK} {m : Str} {pos apos : Pos} {e o : Expr} {es : List Expr} {ta : TE} {t : TA} {C g : Addr} {mc : Value} {fd : FuncData} {ps : List Str} {sp : Sp} {dvs : List V} {ds : List Value}
theorem pe_clsf {pl : Sem Bool} (he : PE X o ta) (r : ClX.CRead X.K C mc) (c : ClX.CVal X.K C mc m (.ref g) (.ref g)) (F : FnOk X.prog X.w X.K X.mg X.base CX k g fd ps sp) (hk : PySem.W.keepIn X.K (.ref g) = true) (hr : Room k X.A)
    (hb : L2.Binds X.K fd ps ds) (hd : Vals dvs ds) (hx : Passes CX X E) (ha : PA X (e :: es) t)
    (hst : starEach (e :: es) X.env = (false, eval e X.env) :: starEach es X.env := by rfl) (hpl : (backTo pos (starEach es X.env)).any (·.1) = false := by rfl)
    (ht : eval (.Call (.Attribute o m apos) (e :: es) [] pos) X.env = (do
      let ov ← eval o X.env
      standAt apos.atName
      let (f, first) ← holding [ov] (getMethod ov m pl)
      callWith pos f first (backTo pos (starEach (e :: es) X.env)) (backToKw pos (keywordEach [] X.env))) := by rfl) :
    PE X (.Call (.Attribute o m apos) (e :: es) [] pos) (tClsF C sp dvs E ta t) := by
  refine ⟨fun pins s σ H Q I h => ?_⟩
  refine PySem.W.methodCall_KW (pl := pl) (thn (he.run pins s σ H _ I h) fun u s1 ⟨x, H1, I1, rx, ex, q⟩ => ?_) ht
  subst ex
  obtain rfl : u = Value.ref C := rx
  refine PySem.W.method_cls I1.kIn r.ga (ClX.getcval_ok I1 r c fun s2 I2 => ?_)
  refine PySem.W.callWith_K (first := []) (h₀ := X.base) I2.ok.mod.kin hk (thn (ha.run pos pins s2 σ H1 _ I2 q) fun us s3 ⟨vs, H2, I3, rv, q2⟩ => ⟨I3.kIn, ?_⟩) hst hpl
  exact run_fn F hr hb hd hx I3 rv q2
end
/-! # min of two -/
def minI (i j : Int) : Int := if j < i then j else i
def rMinY : List V → Hp → VK → Prop := fun xs H Q => ∃ i j, xs = [.int i, .int j] ∧ Q (.int (minI i j)) H
theorem cr_minY {X : Cx} (hc : X.calm = true) : CallR X (.builtin "min") rMinY := call_min2 hc
theorem h_min {i j : Int} {H : Hp} {Q : VK} (h : Q (.int (minI i j)) H) : rMinY [.int i, .int j] H Q := ⟨i, j, rfl, h⟩
/-! # a comprehension over a tuple -/
section
variable {K : PySem.W.Frag} {B H : Hp} {σ : L2.St} {Q : VK} {p : Addr} {xs : List V} {g : TG} {tt : TT} {te : TE} {α β S R' : Type} {P : β → Prop} {R : Err → Prop}
def LcU (K : PySem.W.Frag) (v : V) (g : TG) (tt : TT) (te : TE) (vs : List Nat) (σ : L2.St) (H : Hp) (Q : VK) : Prop := tLc (iTup K (tC v)) g tt te vs σ H Q
theorem h_lcUE {vs : List Nat} {tl : TE} (h : tl σ H fun x H1 => LcU K x g tt te vs σ H1 Q) : tLc (iTup K tl) g tt te vs σ H Q := h
theorem h_lcU [Enc α] {l : List α} {s0 : S} {f : α → S → Res (Option R' × S)} {k : List R' × S → Res β} {vs : List Nat} (hP : Post ((compR l s0 f).bind k) P R) (hs : SqT K H p xs) (hr : RepL K B xs (l.map enc))
    (J : Addr → List R' → S → Hp → Prop) (h0 : ∀ Dl, H Dl = none → J Dl [] s0 (upd H Dl (.lst []))) (hl : ∀ Dl acc s H', J Dl acc s H' → SqT K H' p xs)
    (hb : ∀ (Dl : Addr) (N : Hp → Prop) (T : Option R' × S → Prop) (x : α) v acc s H', J Dl acc s H' → Rep K B v (enc x) → acc.length < sizeLine → (∀ b s' H2, J Dl (acc ++ [b]) s' H2 → T (some b, s') → N H2) → (∀ s' H2, J Dl acc s' H2 → T (none, s') → N H2) → Post (f x s) T R →
      g v (wipe σ vs) H' (LcT σ vs tt te Dl N))
    (hd : ∀ Dl acc s H', J Dl acc s H' → Post (k (acc, s)) P R → Q (.ref Dl) H') : LcU K (.ref p) g tt te vs σ H Q := by
  refine ⟨p, rfl, ⟨xs, hs⟩, fun Dl hD => ?_⟩
  unfold compR at hP
  have hz : l.length ≤ 1000000 := by
    by_cases c : l.length ≤ 1000000
    · exact c
    · unfold guardR at hP; rw [if_neg c] at hP; exact hP.elim
  unfold guardR at hP
  rw [if_pos hz] at hP
  refine lc_tup (K := K) (a := p) (xs := xs) (fun i H' => ∃ acc s, J Dl acc s H' ∧ acc.length ≤ i ∧ Post ((compL (l.drop i) s f).bind fun q => k (acc ++ q.1, q.2)) P R) ⟨[], s0, h0 Dl hD, Nat.le_refl _, hP⟩ (fun i H' _ ⟨acc, s, j, _⟩ => hl Dl acc s H' j) ?_ ?_
  · rintro i y H' hi ⟨acc, s, j, hn, q⟩
    have h1 := (List.getElem?_eq_some_iff.mp hi).1
    rw [hr.length, List.length_map] at h1
    obtain ⟨x, hx⟩ : ∃ x, l[i]? = some x := ⟨l[i], List.getElem?_eq_getElem h1⟩
    obtain ⟨u, hu, ru⟩ := hr.get (i := i) (d := enc x) (by rw [List.getElem?_map, hx]; rfl)
    rw [hi] at hu; cases hu
    exact hb Dl _ _ x y acc s H' j ru (Nat.lt_of_le_of_lt (Nat.le_trans hn (Nat.le_trans (Nat.le_of_lt h1) hz)) (by decide)) (fun b s' H2 j2 t2 => ⟨acc ++ [b], s', j2, by rw [List.length_append]; exact Nat.succ_le_succ hn, t2⟩) (fun s' H2 j2 t2 => ⟨acc, s', j2, Nat.le_succ_of_le hn, t2⟩) (q.compS hx)
  · rintro H' ⟨acc, s, j, _, q⟩
    rw [hr.length, List.length_map, List.drop_eq_nil_of_le (Nat.le_refl _)] at q
    have q2 : Post (k (acc ++ [], s)) P R := q
    rw [List.append_nil] at q2
    exact hd Dl acc s H' j q2
end
end Y

set_option Elab.async false
set_option linter.all false
set_option maxRecDepth 100000
set_option maxHeartbeats 4000000
namespace Y
open PySem PySem.Spec PyProof.Rows
open L2
/-! # o.m(k = v) of one of several classes -/
structure MAltK (P : Program) (wo : World) (K : PySem.W.Frag) (mg : Str → Option Value) (base : Heap) (CX : CXT) (k : Nat) (m : Str) (ks : List Str) (gV : List V → List V → List V) (C : Addr) (sp : Sp) : Prop where
  ex : ∃ (f : Addr) (fd : FuncData) (ps : List Str) (g : List Value → List Value → List Value), Cls K C ∧ Meth K C m f ∧ FnOk P wo K mg base CX k f fd ps sp ∧ KBinds K fd ps ks g gV
def tMethK (A : Addr → Sp → Prop) (m : Str) (gV : List V → List V → List V) (E : L2.St → XK) (ta : TE) (tk : TA) : TE := fun σ H Q => ta σ H fun x H1 => ∃ a C dx fs sp, x = .ref a ∧ H1 a = some (.ins C dx fs) ∧ A C sp ∧ fs.lookup m = none ∧ tk σ H1 fun zs H2 => sp (gV [x] zs) H2 Q (E σ)
section
variable {X : Cx} {CX : CXT} {k : Nat} {E : L2.St → XK} {m : Str} {ks : List Str} {pos apos : Pos} {o : Expr} {kws : List Keyword} {ta : TE} {tk : TA} {A : Addr → Sp → Prop} {gV : List V → List V → List V} {f : Addr} {fd : FuncData} {ps : List Str} {sp : Sp} {g : List Value → List Value → List Value}
theorem run_fnkS {pins : List (Addr × Obj)} {σ : L2.St} {H : Hp} {s : Shared} {Q : VK} {us ws : List Value} {vs zs : List V} (F : FnOk X.prog X.w X.K X.mg X.base CX k f fd ps sp) (hr : Room k X.A) (hb : KBinds X.K fd ps ks g gV) (hx : PassesAt CX X σ (E σ))
    (I : Inv X pins σ H s) (r : Vals vs us) (rz : Vals zs ws) (h : sp (gV vs zs) H Q (E σ)) : wpAny (model X.prog X.w) X.A (call (.ref f) us (ks.zip ws)) (EP X pins σ Q) X.xe s := by
  have r2 := hb.rel r rz
  have hl : (g us ws).length = ps.length := by rw [← r2.length]; exact F.len _ _ _ _ h
  refine wpAny_call (codeAny_mono (F.run X.A X.stack s H ⟨us, ks.zip ws⟩ (g us ws) (gV vs zs) Q (E σ) hr I.env0 (hb.to s us ws I.kIn hl) r2 h) fun r s' hq => ?_)
  cases r with
  | error e => exact hx pins H s e s' I hq
  | ok fl =>
    cases fl with
    | ret u => exact I.after hq
    | next => exact False.elim hq
    | brk => exact False.elim hq
    | cont => exact False.elim hq
theorem pe_methK0 {pl : Sem Bool} (he : PE X o ta) (hA : ∀ C sp, A C sp → MAltK X.prog X.w X.K X.mg X.base CX k m ks gV C sp) (hr : Room k X.A) (hx : ∀ σ, PassesAt CX X σ (E σ)) (hkw : PK X kws tk)
    (hall : (backToKw pos (keywordEach kws X.env)).all (·.1.isSome) = true := by rfl) (hks : (backToKw pos (keywordEach kws X.env)).filterMap (·.1) = ks := by rfl)
    (hpl : ((backTo pos (starEach [] X.env)).any (·.1) || (backToKw pos (keywordEach kws X.env)).any (·.1.isNone)) = false := by rfl)
    (ht : eval (.Call (.Attribute o m apos) [] kws pos) X.env = (do
      let ov ← eval o X.env
      standAt apos.atName
      let (f, first) ← holding [ov] (getMethod ov m pl)
      callWith pos f first (backTo pos (starEach [] X.env)) (backToKw pos (keywordEach kws X.env))) := by rfl) :
    PE X (.Call (.Attribute o m apos) [] kws pos) (tMethK A m gV E ta tk) := by
  refine ⟨fun pins s σ H Q I h => ?_⟩
  refine PySem.W.methodCall_KW (pl := pl) (thn (he.run pins s σ H _ I h) fun u s1 ⟨x, H1, I1, rx, a, C, dx, fs, sp, ex, ea, hAC, l, q⟩ => ?_) ht
  subst ex
  obtain rfl : u = Value.ref a := rx
  obtain ⟨f, fd, ps, g, c, hm, F, hb⟩ := (hA C sp hAC).ex
  refine getmeth_ok I1 ea c hm l ?_
  refine PySem.W.callWith_KW0 (first := [.ref a]) (h₀ := X.base) I1.ok.mod.kin hm.kp hall ?_ hpl
  refine thn (hkw.run pos pins s1 σ H1 _ I1 q) fun ws s2 ⟨zs, H2, I2, rz, q2⟩ => ⟨I2.kIn, ?_⟩
  rw [hks]
  exact run_fnkS (us := [.ref a]) (vs := [.ref a]) F hr hb (hx σ) I2 (.cons rfl .nil) rz q2
theorem h_methKE {σ : L2.St} {H : Hp} {Q : VK} (h : ta σ H fun x H1 => ∃ a C dx fs sp, x = .ref a ∧ H1 a = some (.ins C dx fs) ∧ A C sp ∧ fs.lookup m = none ∧ tk σ H1 fun zs H2 => sp (gV [x] zs) H2 Q (E σ)) : tMethK A m gV E ta tk σ H Q := h
end
/-! # tuples: parts and sums -/
section
variable {K : PySem.W.Frag} {B H : Hp} {Q : VK} {p q : Addr} {lo hi : Option Int} {l l2 : List D}
theorem h_slA (w : Ex B H) (r : Rep K B (.ref p) (.tup (l.map Enc.enc))) (h : ∀ u B' H', Stp [] B H B' H' → Rep K B' u (.tup ((cutL l lo hi).map Enc.enc)) → Q u H') : rSlA K (.ref p) lo hi H Q := by
  obtain ⟨p', xs, e, s, rr⟩ := r.st w
  cases e
  refine ⟨p, xs, rfl, s, fun c => ?_, fun _ p2 hp2 => ?_⟩
  · have e : cutL l lo hi = l := by
      have hl : xs.length = l.length := by rw [rr.length, List.length_map]
      rw [hl] at c
      unfold cutL
      rw [c.1, c.2]
      simp
    refine h _ _ _ (Stp.refl w) ?_
    rw [e]
    exact r
  · exact h _ _ _ (Stp.new w hp2) (.tup (SqT.of upd_same) ((rr.cut lo hi).mono (Ex.new (w.none hp2))))
theorem h_catA (w : Ex B H) (r1 : Rep K B (.ref p) (.tup (l.map Enc.enc))) (r2 : Rep K B (.ref q) (.tup (l2.map Enc.enc))) (hz : l.length + l2.length ≤ 1000000) (h : ∀ u B' H', Stp [] B H B' H' → Rep K B' u (.tup ((l ++ l2).map Enc.enc)) → Q u H') : rCatA K (.ref p) (.ref q) H Q := by
  obtain ⟨p', xs, e, s1, rr1⟩ := r1.st w
  cases e
  obtain ⟨q', ys, e, s2, rr2⟩ := r2.st w
  cases e
  have hl : xs.length = l.length := by rw [rr1.length, List.length_map]
  have hl2 : ys.length = l2.length := by rw [rr2.length, List.length_map]
  refine ⟨p, q, xs, ys, rfl, rfl, s1, s2, by rw [hl, hl2]; exact Nat.le_trans hz (by decide), fun e => ?_, fun _ e => ?_, fun _ _ p2 hp2 => ?_⟩
  · subst e
    have : l = [] := List.eq_nil_of_length_eq_zero hl.symm
    subst this
    exact h _ _ _ (Stp.refl w) r2
  · subst e
    have : l2 = [] := List.eq_nil_of_length_eq_zero hl2.symm
    subst this
    refine h _ _ _ (Stp.refl w) ?_
    rw [List.append_nil]
    exact r1
  · exact h _ _ _ (Stp.new w hp2) (.tup (SqT.of upd_same) ((rr1.cat rr2).mono (Ex.new (w.none hp2))))
end
end Y

set_option Elab.async false
set_option linter.all false
set_option maxRecDepth 100000
set_option maxHeartbeats 4000000
/-! # max(xs, default = d): the loop with its keywords -/
namespace MxD
open PySem
section
variable {prog : Program} {w : World} {A : Around} {R : Result → Shared → Prop} {I : Addr} {fp wr : List Addr} {n : Nat} {P : Nat → Value → Prop} {St : Nat → Heap → Prop} {kw : List (Str × Value)}
theorem nm : (toString "max" ++ toString ".loop" : String) = "max.loop" := by decide
/-- behind the first item -/
theorem loop (W : Walks prog w A.in1 I fp wr n P St) (bt : Nat → Nat → Bool) (hcmp : CmpOf prog w A.in1 .Gt P bt) (S : Addr) (off : S ∉ fp) (k : Nat) : ∀ (j : Nat) (s : Shared) (best : Value) (c : Nat), n = j + 1 + k → St (j + 1) s.heap → P (argBest bt j) best →
    s.heap.get? S = some { cls := .type "list", dict := none, data := .seq #[best, best] c, slots := #[] } →
    (∀ v h' tk, P (argBest bt (n - 1)) v → (∀ b o, b ∉ wr → b ≠ S → s.heap.get? b = some o → h'.get? b = some o) → R (.ok (.ret v)) { s with heap := h', toks := tk }) → codeAny (model prog w) A (.builtin "max.loop" ⟨[.ref I, .none, .ref S], kw⟩) R s := by
  have offw : S ∉ wr := fun h => off (W.sub _ h)
  induction k with
  | zero =>
    intro j s best c en st pb hS fin
    refine codeAny_builtin F.entry_max_loop ?_
    rw [Around.under_plainId F.plain_max_loop _]
    show wpAny (model prog w) A.in1 (seqItems? (.ref S) >>= _) _ _ s
    refine wpAny_bind (wpAny_seqItems hS rfl ?_)
    show wpAny (model prog w) A.in1 (tryCatch (pyNext (.ref I)) _ >>= _) _ _ s
    refine wpAny_bind (wpAny_tryCatch (W.done s _ _ (en ▸ st) fun h' tk kept => ?_))
    show wpAny (model prog w) A.in1 (updateSeq S (fun _ => #[]) >>= _) _ _ _
    refine wpAny_bind (wpAny_updateSeq (kept S _ offw hS) rfl (wpAny_bind (wpAny_letGo (wpAny_pure ?_))))
    exact fin best _ tk (by rw [en]; exact pb) fun b o h1 h2 e => (Heap.get?_update_other _ _ h2.symm).trans (kept b o h1 e)
  | succ k ih =>
    intro j s best c en st pb hS fin
    refine codeAny_builtin F.entry_max_loop ?_
    rw [Around.under_plainId F.plain_max_loop _]
    show wpAny (model prog w) A.in1 (seqItems? (.ref S) >>= _) _ _ s
    refine wpAny_bind (wpAny_seqItems hS rfl ?_)
    show wpAny (model prog w) A.in1 (tryCatch (pyNext (.ref I)) _ >>= _) _ _ s
    refine wpAny_bind (wpAny_tryCatch (W.item (j + 1) s _ _ (by omega) st fun v h' tk pv st' kept => ?_))
    have hS' := kept S _ offw hS
    show wpAny (model prog w) A.in1 (tryCatch (holding [v, v] (richCompare .Gt v best >>= _)) _ >>= _) _ _ _
    refine wpAny_bind (wpAny_tryCatch (wpAny_holding (wpAny_bind (hcmp (j + 1) (argBest bt j) v best _ _ _ pv pb ?_))))
    refine wpAny_bind (wpAny_holding (wpAny_truthy_bool (wpAny_bind (wpAny_letGo (wpAny_pure ?_)))))
    by_cases hb : bt (j + 1) (argBest bt j) = true
    · rw [hb]
      simp only [if_true]
      refine wpAny_bind (wpAny_updateSeq hS' rfl (wpAny_bind (wpAny_letGo ?_)))
      rw [nm]
      refine wpAny_pure ⟨plainId_quiet F.plain_max_loop _, ih (j + 1) _ v _ (by omega) (W.frame _ _ _ st' fun b hf o e => (Heap.get?_update_other _ _ (fun q : S = b => off (by rw [q]; exact hf))).trans e) (by simp only [argBest, hb, if_true]; exact pv) (Heap.get?_update_self _ hS' rfl) fun v2 h2 tk2 p2 k2 => ?_⟩
      exact fin v2 h2 tk2 p2 fun b o h1 hn e => k2 b o h1 hn ((Heap.get?_update_other _ _ hn.symm).trans (kept b o h1 e))
    · have hb := Bool.eq_false_iff.mpr hb
      rw [hb]
      simp only [Bool.false_eq_true, if_false]
      refine wpAny_bind (wpAny_letGo ?_)
      rw [nm]
      refine wpAny_pure ⟨plainId_quiet F.plain_max_loop _, ih (j + 1) _ best c (by omega) st' (by simp only [argBest, hb, Bool.false_eq_true, if_false]; exact pb) hS' fun v2 h2 tk2 p2 k2 => ?_⟩
      exact fin v2 h2 tk2 p2 fun b o h1 hn e => k2 b o h1 hn (kept b o h1 e)
theorem first (W : Walks prog w A.in1 I fp wr n P St) (bt : Nat → Nat → Bool) (hcmp : CmpOf prog w A.in1 .Gt P bt) (S : Addr) (off : S ∉ fp) (hn : 0 < n) {s : Shared} {c : Nat} (st : St 0 s.heap)
    (hS : s.heap.get? S = some { cls := .type "list", dict := none, data := .seq #[] c, slots := #[] })
    (fin : ∀ v h' tk, P (argBest bt (n - 1)) v → (∀ b o, b ∉ wr → b ≠ S → s.heap.get? b = some o → h'.get? b = some o) → R (.ok (.ret v)) { s with heap := h', toks := tk }) : codeAny (model prog w) A (.builtin "max.loop" ⟨[.ref I, .none, .ref S], kw⟩) R s := by
  have offw : S ∉ wr := fun h => off (W.sub _ h)
  refine codeAny_builtin F.entry_max_loop ?_
  rw [Around.under_plainId F.plain_max_loop _]
  show wpAny (model prog w) A.in1 (seqItems? (.ref S) >>= _) _ _ s
  refine wpAny_bind (wpAny_seqItems hS rfl ?_)
  show wpAny (model prog w) A.in1 (tryCatch (pyNext (.ref I)) _ >>= _) _ _ s
  refine wpAny_bind (wpAny_tryCatch (W.item 0 s _ _ hn st fun v h' tk pv st' kept => ?_))
  have hS' := kept S _ offw hS
  show wpAny (model prog w) A.in1 (updateSeq S (fun _ => #[v, v]) >>= _) _ _ _
  refine wpAny_bind (wpAny_updateSeq hS' rfl ?_)
  rw [nm]
  refine wpAny_pure ⟨plainId_quiet F.plain_max_loop _, loop W bt hcmp S off (n - 1) 0 _ v _ (by omega) (W.frame _ _ _ st' fun b hf o e => (Heap.get?_update_other _ _ (fun q : S = b => off (by rw [q]; exact hf))).trans e) pv (Heap.get?_update_self _ hS' rfl) fun v2 h2 tk2 p2 k2 => ?_⟩
  exact fin v2 h2 tk2 p2 fun b o h1 hn e => k2 b o h1 hn ((Heap.get?_update_other _ _ hn.symm).trans (kept b o h1 e))
/-- no item: the default -/
theorem none_ (W : Walks prog w A.in1 I fp wr n P St) (n0 : n = 0) (S : Addr) (off : S ∉ fp) {s : Shared} {c : Nat} {d : Value} {x : Str} (st : St 0 s.heap)
    (hS : s.heap.get? S = some { cls := .type "list", dict := none, data := .seq #[] c, slots := #[] })
    (fin : ∀ h' tk, (∀ b o, b ∉ wr → b ≠ S → s.heap.get? b = some o → h'.get? b = some o) → R (.ok (.ret d)) { s with heap := h', toks := tk }) : codeAny (model prog w) A (.builtin "max.loop" ⟨[.ref I, .none, .ref S], [(x, d)]⟩) R s := by
  refine codeAny_builtin F.entry_max_loop ?_
  rw [Around.under_plainId F.plain_max_loop _]
  show wpAny (model prog w) A.in1 (seqItems? (.ref S) >>= _) _ _ s
  refine wpAny_bind (wpAny_seqItems hS rfl ?_)
  show wpAny (model prog w) A.in1 (tryCatch (pyNext (.ref I)) _ >>= _) _ _ s
  refine wpAny_bind (wpAny_tryCatch (W.done s _ _ (n0.symm ▸ st) fun h' tk kept => ?_))
  exact wpAny_bind (wpAny_rule (wpAny_pure (fin h' tk fun b o h1 _ e => kept b o h1 e)))
end
theorem args_max_d (a d : Value) : argsOk "max" ⟨[a], [(Str.ofString "default", d)]⟩ := by unfold argsOk; kernel_rfl
theorem call_tree_kw {prog : Program} {w : World} {A : Around} {s : Shared} {E : Value → Shared → Prop} {id : String} {b : Builtin} {args : List Value} {kw : List (Str × Value)} {Q : Value → Shared → Prop} (hk : builtinKind id = none) (hp : plainId id = true) (hb : entryFor table id = some b) (ha : argsOk id ⟨args, kw⟩)
    (hc : wpAny (model prog w) A.in1 (b ⟨args, kw⟩) (fun fin s' => match fin with
      | .done f => (match (Except.ok f : Result) with | .ok (.ret v) => Q v s' | .ok _ => False | .error e => E e s')
      | .again c => c.quiet = true ∧ codeAny (model prog w) A c (fun r s' => match r with | .ok (.ret v) => Q v s' | .ok _ => False | .error e => E e s') s') E s) : wpAny (model prog w) A (call (.builtin id) args kw) Q E s := by
  refine wpAny_call (codeAny_call_builtin hp hb ?_)
  simp only [checkBuiltinCall, hk]
  cases hsig : Manifest.signature? id with
  | none => exact wpAny_pure hc
  | some sig =>
    simp only [argsOk, hsig] at ha
    have h2 : Bind.checkArgs id sig ⟨args, kw⟩ = pure () := ha
    show wpAny (model prog w) A.in1 (Bind.checkArgs id sig ⟨args, kw⟩) _ _ s
    rw [h2]
    exact wpAny_pure hc
open PyProof.Rows L2 in
theorem raw {prog : Program} {w : World} {A : Around} {s : Shared} {E Q : Value → Shared → Prop} {l : Addr} {its : List Value} {ns : List Int} {d : Int} {td : Tok} (hh : A.handled = none) (hl : s.heap.IsList l its.toArray) (hi : IntsAre its ns)
    (h : ∀ h' tk M t', (∀ b o, s.heap.get? b = some o → h'.get? b = some o) → (ns ≠ [] → M ∈ ns ∧ ∀ a, a ∈ ns → a ≤ M) → (ns = [] → M = d) → Q (.int M t') { s with heap := h', toks := tk }) : wpAny (model prog w) A (call (.builtin "max") [.ref l] [(Str.ofString "default", .int d td)]) Q E s := by
  obtain ⟨xs, e⟩ := hi.allInts.items
  have hn : numsOf (intItems xs).toList = ns := by rw [← e]; exact hi.numsOf
  rw [nums_intItems] at hn
  subst hn
  rw [e] at hl
  refine call_tree_kw F.kind_max F.plain_max F.entry_max (args_max_d _ _) ?_
  show wpAny (model prog w) A.in1 (Builtin.Builtins.bindParams "max" ["key", "default"] 0 ⟨[], [(Str.ofString "default", .int d td)]⟩ >>= _) _ _ s
  refine wpAny_bind (wpAny_of_eq (show Builtin.Builtins.bindParams "max" ["key", "default"] 0 ⟨[], [(Str.ofString "default", .int d td)]⟩ = pure [none, some (.int d td)] by kernel_rfl) ?_)
  refine wpAny_bind (wpAny_pure ?_)
  refine wpAny_bind (wpAny_mono (iter_intList (Q := fun it s₂ => it = .ref s.heap.objs.size ∧ s₂ = { s with heap := s.heap.push { cls := .type "list_iterator", data := .fields #[.ref l, .int 0 0] } } ∧ (s₂.heap.IsListIter s.heap.objs.size l 0 ∧ s₂.heap.IsList l (intItems xs)) ∧ ∀ b ∈ [s.heap.objs.size, l], b < s₂.heap.objs.size) hl fun s₂ e st hfp hlI => ⟨rfl, e, st, hfp⟩) ?_ fun _ _ e => e)
  rintro _ s₂ ⟨rfl, e, st, hfp⟩
  subst e
  have hne : l ≠ s.heap.objs.size := by obtain ⟨_, e, _⟩ := hl; exact Nat.ne_of_lt (Heap.lt_size e)
  have W := Walks.list (prog := prog) (w := w) (A := A.in1) hh _ l hne (intItems xs)
  refine wpAny_bind (wpAny_newObj_type ?_)
  rw [nm]
  have off := fun hm => Nat.lt_irrefl _ (hfp _ hm)
  have st2 := fun o2 : Obj => W.frame 0 _ ((s.heap.push { cls := .type "list_iterator", data := .fields #[.ref l, .int 0 0] }).push o2) st fun b _ o e => Heap.get?_push_of_some _ e
  have old : ∀ (h' : Heap) {S : Addr}, S = s.heap.objs.size + 1 → (∀ b o, b ∉ [s.heap.objs.size] → b ≠ S → ((s.heap.push { cls := .type "list_iterator", data := .fields #[.ref l, .int 0 0] }).push { cls := .type "list", data := .seq #[] }).get? b = some o → h'.get? b = some o) → ∀ b o, s.heap.get? b = some o → h'.get? b = some o := fun h' S eS k b o e => by
    have hb := Heap.lt_size e
    refine k b o (fun m => ?_) (by rw [eS]; exact Nat.ne_of_lt (Nat.lt_succ_of_lt hb)) (Heap.get?_push_of_some _ (Heap.get?_push_of_some _ e))
    rw [List.mem_singleton.mp m] at hb
    exact Nat.lt_irrefl _ hb
  have eS : ∀ o : Obj, (s.heap.push o).objs.size = s.heap.objs.size + 1 := fun o => Heap.size_push ..
  have sz : (intItems xs).size = xs.size := by simp [intItems]
  by_cases hz : (intItems xs).size = 0
  · refine wpAny_pure ⟨plainId_quiet F.plain_max_loop _, none_ W hz _ off (st2 _) (Heap.get?_push_size _ rfl) fun h' tk kept => ?_⟩
    have : xs.toList = [] := by
      apply List.eq_nil_of_length_eq_zero
      rw [Array.length_toList]
      omega
    exact h h' tk d td (old h' (eS _) kept) (fun q => absurd (by rw [this]; rfl) q) fun _ => rfl
  · refine wpAny_pure ⟨plainId_quiet F.plain_max_loop _, first W _ (CmpOf.ints_gt (numAt xs) (fun _ _ => intItems_at)) _ off (by omega) (st2 _) (Heap.get?_push_size _ rfl) fun v h' tk pv kept => ?_⟩
    obtain ⟨t, rfl⟩ := intItems_at (show (intItems xs)[_]? = some v from pv)
    obtain ⟨h1, h2⟩ := argBest_gt (numAt xs) ((intItems xs).size - 1)
    refine h h' tk _ t (old h' (eS _) kept) (fun _ => ⟨?_, fun a ha => ?_⟩) fun q => absurd q ?_
    · rw [numAt_eq]; exact PySem.getD_mem (by rw [List.length_map, Array.length_toList]; omega)
    · obtain ⟨j, hj, rfl⟩ := mem_getD ha
      rw [List.length_map, Array.length_toList] at hj
      rw [← numAt_eq]; exact h2 j (by omega)
    · intro e2
      have := congrArg List.length e2
      rw [List.length_map, Array.length_toList] at this
      have : xs.size = 0 := this
      omega
open PyProof.Rows L2 in
theorem rawT {prog : Program} {w : World} {A : Around} {s : Shared} {E Q : Value → Shared → Prop} {l : Addr} {its : List Value} {ns : List Int} (hh : A.handled = none) (hT : s.heap.IsTuple l its.toArray) (hi : IntsAre its ns) (hne : ns ≠ [])
    (h : ∀ h' tk M t', (∀ b o, s.heap.get? b = some o → h'.get? b = some o) → M ∈ ns → (∀ a, a ∈ ns → a ≤ M) → Q (.int M t') { s with heap := h', toks := tk }) : wpAny (model prog w) A (call (.builtin "max") [.ref l]) Q E s := by
  obtain ⟨xs, e⟩ := hi.allInts.items
  have hn : numsOf (intItems xs).toList = ns := by rw [← e]; exact hi.numsOf
  rw [nums_intItems] at hn
  subst hn
  rw [e] at hT
  have lt : l < s.heap.objs.size := by obtain ⟨_, e, _⟩ := hT; exact Heap.lt_size e
  have sz : (intItems xs).size = xs.size := by simp [intItems]
  have hx : 0 < xs.size := by
    cases q : xs.size with
    | zero => exact absurd (List.eq_nil_of_length_eq_zero (by rw [List.length_map, Array.length_toList]; exact q)) hne
    | succ n => exact Nat.succ_pos n
  refine call_max_walk (wpAny_pyIter_tuple hT ?_)
  refine ⟨_, [_, l], [_], _, _, _, _, rfl, Walks.tuple (A := A.in1) hh _ l (Nat.ne_of_lt lt) (intItems xs), ⟨⟨_, Heap.get?_push_size _ rfl, rfl, rfl⟩, hT.push _⟩, fun c hc => ?_, by rw [sz]; exact hx, CmpOf.ints_gt (numAt xs) (fun _ _ => intItems_at), fun v h' tk pv hk => ?_⟩
  · show c < (s.heap.push _).objs.size
    rw [Heap.size_push]
    rcases List.mem_cons.mp hc with rfl | hc
    · exact Nat.lt_succ_self _
    · rw [List.mem_singleton.mp hc]; exact Nat.lt_succ_of_lt lt
  · obtain ⟨t, rfl⟩ := intItems_at (show (intItems xs)[_]? = some v from pv)
    obtain ⟨h1, h2⟩ := argBest_gt (numAt xs) ((intItems xs).size - 1)
    refine h h' tk _ t (fun b o e => hk b o (fun m => ?_) (Heap.get?_push_of_some _ e)) ?_ fun a ha => ?_
    · have := Heap.lt_size e
      rw [List.mem_singleton.mp m] at this
      exact Nat.lt_irrefl _ this
    · rw [numAt_eq]; exact PySem.getD_mem (by rw [List.length_map, Array.length_toList]; omega)
    · obtain ⟨j, hj, rfl⟩ := mem_getD ha
      rw [List.length_map, Array.length_toList] at hj
      rw [← numAt_eq]; exact h2 j (by omega)
end MxD
namespace Y
open PySem PySem.Spec PyProof.Rows
open L2
def maxL (d : Int) : List Int → Int
  | [] => d
  | n :: r => r.foldl (fun a b => if a < b then b else a) n
theorem foldmax : ∀ (r : List Int) (n : Int), (r.foldl (fun a b => if a < b then b else a) n = n ∨ r.foldl (fun a b => if a < b then b else a) n ∈ r) ∧ n ≤ r.foldl (fun a b => if a < b then b else a) n ∧ ∀ a ∈ r, a ≤ r.foldl (fun a b => if a < b then b else a) n
  | [], n => ⟨.inl rfl, Int.le_refl _, fun _ m => nomatch m⟩
  | x :: r, n => by
    obtain ⟨h1, h2, h3⟩ := foldmax r (if n < x then x else n)
    simp only [List.foldl_cons]
    have hx : n ≤ (if n < x then x else n) ∧ x ≤ (if n < x then x else n) := by split <;> omega
    refine ⟨?_, Int.le_trans hx.1 h2, fun a m => ?_⟩
    · rcases h1 with e | m
      · rw [e]
        split
        · exact .inr List.mem_cons_self
        · exact .inl rfl
      · exact .inr (List.mem_cons_of_mem _ m)
    · rcases List.mem_cons.mp m with rfl | m
      · exact Int.le_trans hx.2 h2
      · exact h3 a m
theorem maxL_eq {ns : List Int} {M d : Int} (h : ns ≠ [] → M ∈ ns ∧ ∀ a, a ∈ ns → a ≤ M) (h0 : ns = [] → M = d) : M = maxL d ns := by
  cases ns with
  | nil => exact h0 rfl
  | cons n r =>
    obtain ⟨m, u⟩ := h (by simp)
    obtain ⟨h1, h2, h3⟩ := foldmax r n
    refine Int.le_antisymm ?_ (u _ ?_)
    · rcases List.mem_cons.mp m with rfl | m
      · exact h2
      · exact h3 M m
    · rcases h1 with e | m
      · show r.foldl _ n ∈ _
        rw [e]; exact List.mem_cons_self
      · exact List.mem_cons_of_mem _ m
def rMaxD (K : PySem.W.Frag) : List V → List V → Hp → VK → Prop := fun vs zs H Q => ∃ (a : Addr) (ns : List Int) (d : Int), vs = [V.ref a] ∧ zs = [.int d] ∧ SqL K H a (ns.map V.int) ∧ Q (.int (maxL d ns)) H
theorem cr_maxDef {X : Cx} (hc : X.calm = true) : CallRK X (.builtin "max") [Str.ofString "default"] (rMaxD X.K) := by
  intro pins s σ H vs zs us ws Q I r rz h
  obtain ⟨a, ns, d, rfl, rfl, hs, q⟩ := h
  obtain ⟨its, rv, hl, _⟩ := I.list hs
  obtain rfl := Vals.ref1 r
  obtain ⟨w1, rfl, t, e1⟩ := vals1 rz
  subst e1
  refine MxD.raw (I.ok.hd hc) hl.isList rv.ints fun h' tk m t' hk h1 h2 => ⟨.int _, H, I.kept hk, ⟨_, rfl⟩, ?_⟩
  rw [maxL_eq h1 h2]
  exact q
def rMaxT (K : PySem.W.Frag) : List V → Hp → VK → Prop := fun vs H Q => ∃ (a : Addr) (ns : List Int), vs = [V.ref a] ∧ ns ≠ [] ∧ SqT K H a (ns.map V.int) ∧ Q (.int (maxL 0 ns)) H
theorem cr_maxTup {X : Cx} (hc : X.calm = true) : CallR X (.builtin "max") (rMaxT X.K) := by
  intro pins s σ H vs us Q I r h
  obtain ⟨a, ns, rfl, hne, hs, q⟩ := h
  obtain ⟨its, rv, hl, _⟩ := I.tuple hs
  obtain rfl := Vals.ref1 r
  refine MxD.rawT (I.ok.hd hc) hl rv.ints hne fun h' tk m t' hk h1 h2 => ⟨.int _, H, I.kept hk, ⟨_, rfl⟩, ?_⟩
  rw [maxL_eq (d := 0) (fun _ => ⟨h1, h2⟩) fun e => absurd e hne]
  exact q
/-- the numbers of a tuple of numbers -/
def intsO : List D → Option (List Int)
  | [] => some []
  | .int i :: r => (intsO r).map (i :: ·)
  | _ :: _ => none
theorem intsO_eq : ∀ {ds : List D} {ns : List Int}, intsO ds = some ns → ds = ns.map D.int
  | [], ns, e => by cases e; rfl
  | .int i :: r, ns, e => by
    cases q : intsO r with
    | none =>
      have e' : (intsO r).map (i :: ·) = some ns := e
      rw [q] at e'; exact nomatch e'
    | some m =>
      have e' : (intsO r).map (i :: ·) = some ns := e
      rw [q] at e'
      cases e'
      rw [intsO_eq q]
      rfl
def asIs (d : D) : Res (List Int) := match d with | .tup ds => (match intsO ds with | Option.some (n :: r) => .ok (n :: r) | _ => .stuck) | _ => .stuck
theorem Post.asIs {β : Type} {d : D} {k : List Int → Res β} {P : β → Prop} {R : Err → Prop} (h : Post ((Y.asIs d).bind k) P R) : ∃ ns : List Int, ns ≠ [] ∧ d = .tup (ns.map D.int) ∧ Post (k ns) P R := by
  cases d with
  | tup ds =>
    have h' : Post ((match intsO ds with | Option.some (n :: r) => Res.ok (n :: r) | _ => Res.stuck).bind k) P R := h
    cases q : intsO ds with
    | none => rw [q] at h'; exact h'.elim
    | some m =>
      rw [q] at h'
      cases m with
      | nil => exact h'.elim
      | cons n r => exact ⟨n :: r, by simp, by rw [intsO_eq q], h'⟩
  | _ => exact h.elim
theorem h_maxTup {K : PySem.W.Frag} {B H : Hp} {Q : VK} {v : V} {ns : List Int} (w : Ex B H) (hne : ns ≠ []) (r : Rep K B v (.tup (ns.map D.int))) (h : Q (.int (maxL 0 ns)) H) : rMaxT K [v] H Q := by
  obtain ⟨p, xs, rfl, s, rr⟩ := r.st w
  refine ⟨p, ns, rfl, hne, ?_, h⟩
  rw [← RepL.of_ints rr]
  exact s
theorem h_ckw {σ : L2.St} {H : Hp} {Q : VK} {r : List V → List V → Hp → VK → Prop} {t tk : TA} (h : t σ H fun vs H1 => tk σ H1 fun zs H2 => r vs zs H2 Q) : tCKw r t tk σ H Q := h
theorem h_maxDef {K : PySem.W.Frag} {B H : Hp} {Q : VK} {p : Addr} {xs : List V} {l : List Int} {d : Int} (s : SqL K H p xs) (r : RepL K B xs (l.map Enc.enc)) (h : Q (.int (maxL d l)) H) : rMaxD K [.ref p] [.int d] H Q := by
  refine ⟨p, l, d, rfl, rfl, ?_, h⟩
  rw [← r.intsV]
  exact s
/-! # x & 255 -/
def rAnd255 : V → V → Hp → VK → Prop := fun x y H Q => ∃ (i : Int) (k : Nat), x = .int i ∧ y = .int (2 ^ k - 1) ∧ Q (.int (i % 2 ^ k)) H
theorem op_and255 {X : Cx} : OpR X (binaryOp .BitAnd) rAnd255 := op_andM
theorem h_and255 {H : Hp} {Q : VK} {i : Int} (h : Q (.int (i % 256)) H) : rAnd255 (.int i) (.int 255) H Q := ⟨i, 8, rfl, rfl, h⟩
/-! # what is never reached -/
theorem ps_unreached {X : Cx} {st : Stmt} : PS X st (fun _ _ _ => False) := ⟨fun _ _ _ _ _ _ h => h.elim⟩
theorem pss_unreached {X : Cx} {ss : List Stmt} : PSs X ss (fun _ _ _ => False) := ⟨fun _ _ _ _ _ _ h => h.elim⟩
/-! # comprehensions with places, and over two lists -/
section
variable {K : PySem.W.Frag} {B H : Hp} {σ : L2.St} {Q : VK} {p p2 : Addr} {xs ys : List V} {g : TG} {tt : TT} {te : TE} {α α' β S R' : Type} {P : β → Prop} {R : Err → Prop}
def LcE (K : PySem.W.Frag) (ws : List V) (g : TG) (tt : TT) (te : TE) (vs : List Nat) (σ : L2.St) (H : Hp) (Q : VK) : Prop := tLc (iEnum K (fun _ H Q => Q ws H)) g tt te vs σ H Q
theorem h_lcEnE {vs : List Nat} {ta : TA} (h : ta σ H fun ws H1 => LcE K ws g tt te vs σ H1 Q) : tLc (iEnum K ta) g tt te vs σ H Q := h
theorem h_lcEn [Enc α] {l : List α} {s0 : S} {f : Tp2 Int α → S → Res (Option R' × S)} {k : List R' × S → Res β} {vs : List Nat} (hP : Post ((compR (enumL l) s0 f).bind k) P R) (hs : SqL K H p xs) (hr : RepL K B xs (l.map Enc.enc))
    (J : Addr → List R' → S → Hp → Prop) (h0 : ∀ Dl, H Dl = none → J Dl [] s0 (upd H Dl (.lst []))) (hl : ∀ Dl acc s H', J Dl acc s H' → SqL K H' p xs)
    (hb : ∀ (Dl : Addr) (N : Hp → Prop) (T : Option R' × S → Prop) (x : Tp2 Int α) u acc s H', J Dl acc s H' → Rep K B u (Enc.enc x.b) → acc.length < sizeLine → (∀ b s' H2, J Dl (acc ++ [b]) s' H2 → T (some b, s') → N H2) → (∀ s' H2, J Dl acc s' H2 → T (none, s') → N H2) → Post (f x s) T R →
      NewT [.int x.a, u] H' fun v H1 => g v (wipe σ vs) H1 (LcT σ vs tt te Dl N))
    (hd : ∀ Dl acc s H', J Dl acc s H' → Post (k (acc, s)) P R → Q (.ref Dl) H') : LcE K [.ref p] g tt te vs σ H Q := by
  refine ⟨p, xs, rfl, hs, fun Dl hD => ?_⟩
  unfold compR at hP
  have hll : xs.length = l.length := by rw [hr.length, List.length_map]
  have hel : (enumL l).length = l.length := by unfold enumL; rw [List.length_mapIdx]
  have hz : (enumL l).length ≤ 1000000 := by
    by_cases c : (enumL l).length ≤ 1000000
    · exact c
    · unfold guardR at hP; rw [if_neg c] at hP; exact hP.elim
  unfold guardR at hP
  rw [if_pos hz] at hP
  refine lc_it (n := xs.length) walk_enum (fun i H' => ∃ acc s, J Dl acc s H' ∧ acc.length ≤ i ∧ Post ((compL ((enumL l).drop i) s f).bind fun q => k (acc ++ q.1, q.2)) P R) ⟨[], s0, h0 Dl hD, Nat.le_refl _, hP⟩ (fun i H' _ ⟨acc, s, j, _⟩ => hl Dl acc s H' j) ?_ ?_
  · rintro i v H' H2 hi ⟨acc, s, j, hn, q⟩ ⟨T, y1, y2, rfl, hT, rfl, h1, h2⟩
    cases Option.some.inj h1
    have hil : i < l.length := by omega
    have hx : (enumL l)[i]? = some ⟨(i : Int), l[i]⟩ := by
      unfold enumL
      rw [List.getElem?_mapIdx, List.getElem?_eq_getElem hil]
      rfl
    obtain ⟨u, hu, ru⟩ := hr.get (i := i) (d := Enc.enc l[i]) (by rw [List.getElem?_map, List.getElem?_eq_getElem hil]; rfl)
    have h2 : xs[i]? = some y2 := h2
    rw [h2] at hu; cases hu
    exact (hb Dl _ _ ⟨(i : Int), l[i]⟩ y2 acc s H' j ru (Nat.lt_of_le_of_lt (Nat.le_trans hn (Nat.le_trans (Nat.le_of_lt (hel.symm ▸ hil)) hz)) (by decide)) (fun b s' H2 j2 t2 => ⟨acc ++ [b], s', j2, by rw [List.length_append]; exact Nat.succ_le_succ hn, t2⟩) (fun s' H2 j2 t2 => ⟨acc, s', j2, Nat.le_succ_of_le hn, t2⟩) (q.compS hx)).2 T hT
  · rintro H' ⟨acc, s, j, _, q⟩
    rw [List.drop_eq_nil_of_le (by rw [hel, hll]; exact Nat.le_refl _)] at q
    have q2 : Post (k (acc ++ [], s)) P R := q
    rw [List.append_nil] at q2
    exact hd Dl acc s H' j q2
end
/-! # reverse, clear -/
section
variable {K : PySem.W.Frag} {B H : Hp} {Q : VK} {p : Addr} {ds : List D}
theorem h_reverse {α : Type} [Enc α] {l : List α} (w : Ex B H) (m : Mu K B H p (l.map Enc.enc)) (h : ∀ H', Stp [p] B H B H' → Mu K B H' p (l.reverse.map Enc.enc) → Q .non H') : rReverse (.ref p) [] H Q := by
  obtain ⟨xs, hp, _, rl⟩ := m.sq
  obtain ⟨s, m'⟩ := Stp.mut w m (RepL.rev (l := l) rl)
  exact ⟨p, xs, rfl, rfl, hp, h _ s m'⟩
theorem h_clear {α : Type} [Enc α] {l : List α} (w : Ex B H) (m : Mu K B H p (l.map Enc.enc)) (h : ∀ H', Stp [p] B H B H' → Mu K B H' p (([] : List α).map Enc.enc) → Q .non H') : rClear (.ref p) [] H Q := by
  obtain ⟨xs, hp, _, rl⟩ := m.sq
  obtain ⟨s, m'⟩ := Stp.mut (es := []) w m .nil
  exact ⟨p, xs, rfl, rfl, hp, h _ s m'⟩
end
theorem ExcT.toExcT {K : PySem.W.Frag} {mg : Str → Option Value} {nm : Str} {C : Addr} (T : ExcT K mg nm C) : ExcT K mg nm C := T
end Y

set_option Elab.async false
set_option linter.all false
set_option maxRecDepth 100000
set_option maxHeartbeats 4000000
namespace Y
open PySem PySem.Spec PyProof.Rows
open L2
open Enc (enc)
/-! # ints that the module names; divmod; x in a list of data -/
structure CI (mg : Str → Option Value) (nm : Str) (i : Int) : Prop where
  g : ∃ t, mg nm = Option.some (.int i t)
theorem pe_globI {X : Cx} {x : Str} {i : Int} {pos : Pos} (hg : Gl X x) (c : CI X.mg x i) (hd : (x == ("__debug__" : Str)) = false := by decide) : PE X (.Name x pos) (tC (.int i)) := by
  obtain ⟨t, h⟩ := c.g
  exact pe_glob (v := .int i) hg h ⟨t, rfl⟩ hd
theorem hu65_of {A : Around} {k : Nat} (hr : Room k A) : A.units + 65 < cLine := by have := hr.un; omega
def rDivmod : List V → Hp → VK → Prop := fun xs H Q => ∃ i j, xs = [.int i, .int j] ∧ CDiv i j ∧ ∀ p, H p = none → Q (.ref p) (upd H p (.tup [.int (i / j), .int (i % j)]))
theorem cr_divmod {X : Cx} : CallR X (.builtin "divmod") rDivmod := call_divmod
/-- x in l, of data -/
def inD (x : D) (l : List D) : Bool := (pyDs l).any fun z => PyData.eqv z (pyD x)
section
variable {K : PySem.W.Frag} {B H : Hp} {Q : VK} {x y : V} {d : D} {es : List D} {i j : Int}
theorem h_divmod (w : Ex B H) (hc : CDiv i j) (h : ∀ p B' H', Stp [] B H B' H' → Rep K B' (.ref p) (enc (⟨i / j, i % j⟩ : Tp2 Int Int)) → Q (.ref p) H') : rDivmod [.int i, .int j] H Q :=
  ⟨i, j, rfl, hc, fun p hp => h p _ _ (Stp.new w hp) (.tup (SqT.of upd_same) (.cons (.int _) (.cons (.int _) .nil)))⟩
theorem h_inD (w : Ex B H) (rx : Rep K B x d) (ry : Rep K B y (.lst es)) (o : okEq d (.lst es)) (h : Q (.bl (inD d es)) H) : rInD K x y H Q := ⟨_, _, rx.dp w o.1, ry.dp w o.2.1, o.2.2.1, o.2.2.2, h⟩
end
end Y
/-! # zip in comprehensions; str(o) by its own __str__; f-strings; texts one behind the other -/
namespace Y
open PySem PySem.Spec PyProof.Rows
open L2
open Enc (enc)
def zipL {α α' : Type} (l : List α) (m : List α') : List (Tp2 α α') := List.zipWith Tp2.mk l m
section
variable {K : PySem.W.Frag} {B H : Hp} {σ : L2.St} {Q : VK} {p p2 : Addr} {xs ys : List V} {g : TG} {tt : TT} {te : TE} {α α' β S R' : Type} {P : β → Prop} {R : Err → Prop}
def LcZ (K : PySem.W.Frag) (ws : List V) (g : TG) (tt : TT) (te : TE) (vs : List Nat) (σ : L2.St) (H : Hp) (Q : VK) : Prop := tLc (iZip K (fun _ H Q => Q ws H)) g tt te vs σ H Q
theorem h_lcZipE {vs : List Nat} {ta : TA} (h : ta σ H fun ws H1 => LcZ K ws g tt te vs σ H1 Q) : tLc (iZip K ta) g tt te vs σ H Q := h
theorem h_lcZip [Enc α] [Enc α'] {l : List α} {m : List α'} {s0 : S} {f : Tp2 α α' → S → Res (Option R' × S)} {k : List R' × S → Res β} {vs : List Nat} (hP : Post ((compR (zipL l m) s0 f).bind k) P R) (hs : SqL K H p xs) (hr : RepL K B xs (l.map Enc.enc)) (hs2 : SqL K H p2 ys) (hr2 : RepL K B ys (m.map Enc.enc))
    (J : Addr → List R' → S → Hp → Prop) (h0 : ∀ Dl, H Dl = none → J Dl [] s0 (upd H Dl (.lst []))) (hl : ∀ Dl acc s H', J Dl acc s H' → SqL K H' p xs ∧ SqL K H' p2 ys)
    (hb : ∀ (Dl : Addr) (N : Hp → Prop) (T : Option R' × S → Prop) (x : Tp2 α α') u u2 acc s H', J Dl acc s H' → Rep K B u (Enc.enc x.a) → Rep K B u2 (Enc.enc x.b) → acc.length < sizeLine → (∀ b s' H2, J Dl (acc ++ [b]) s' H2 → T (some b, s') → N H2) → (∀ s' H2, J Dl acc s' H2 → T (none, s') → N H2) → Post (f x s) T R →
      NewT [u, u2] H' fun v H1 => g v (wipe σ vs) H1 (LcT σ vs tt te Dl N))
    (hd : ∀ Dl acc s H', J Dl acc s H' → Post (k (acc, s)) P R → Q (.ref Dl) H') : LcZ K [.ref p, .ref p2] g tt te vs σ H Q := by
  refine ⟨p, p2, xs, ys, rfl, hs, hs2, fun Dl hD => ?_⟩
  unfold compR at hP
  have hll : xs.length = l.length := by rw [hr.length, List.length_map]
  have hll2 : ys.length = m.length := by rw [hr2.length, List.length_map]
  have hel : (zipL l m).length = min l.length m.length := by unfold zipL; rw [List.length_zipWith]
  have hz : (zipL l m).length ≤ 1000000 := by
    by_cases c : (zipL l m).length ≤ 1000000
    · exact c
    · unfold guardR at hP; rw [if_neg c] at hP; exact hP.elim
  unfold guardR at hP
  rw [if_pos hz] at hP
  refine lc_it (n := min xs.length ys.length) (walk_zip rfl) (fun i H' => ∃ acc s, J Dl acc s H' ∧ acc.length ≤ i ∧ Post ((compL ((zipL l m).drop i) s f).bind fun q => k (acc ++ q.1, q.2)) P R) ⟨[], s0, h0 Dl hD, Nat.le_refl _, hP⟩ (fun i H' _ ⟨acc, s, j, _⟩ => hl Dl acc s H' j) ?_ ?_
  · rintro i v H' H2 hi ⟨acc, s, j, hn, q⟩ ⟨T, y1, y2, rfl, hT, rfl, h1, h2⟩
    have h1 : xs[i]? = some y1 := h1
    have h2 : ys[i]? = some y2 := h2
    have hil : i < l.length := by omega
    have hil2 : i < m.length := by omega
    have hx : (zipL l m)[i]? = some ⟨l[i], m[i]⟩ := by
      unfold zipL
      rw [List.getElem?_zipWith, List.getElem?_eq_getElem hil, List.getElem?_eq_getElem hil2]
    obtain ⟨u, hu, ru⟩ := hr.get (i := i) (d := Enc.enc l[i]) (by rw [List.getElem?_map, List.getElem?_eq_getElem hil]; rfl)
    rw [h1] at hu; cases hu
    obtain ⟨u2, hu2, ru2⟩ := hr2.get (i := i) (d := Enc.enc m[i]) (by rw [List.getElem?_map, List.getElem?_eq_getElem hil2]; rfl)
    rw [h2] at hu2; cases hu2
    exact (hb Dl _ _ ⟨l[i], m[i]⟩ y1 y2 acc s H' j ru ru2 (Nat.lt_of_le_of_lt (Nat.le_trans hn (Nat.le_trans (by rw [hel]; omega) hz)) (by decide)) (fun b s' H2 j2 t2 => ⟨acc ++ [b], s', j2, by rw [List.length_append]; exact Nat.succ_le_succ hn, t2⟩) (fun s' H2 j2 t2 => ⟨acc, s', j2, Nat.le_succ_of_le hn, t2⟩) (q.compS hx)).2 T hT
  · rintro H' ⟨acc, s, j, _, q⟩
    rw [List.drop_eq_nil_of_le (by rw [hel, hll, hll2]; exact Nat.le_refl _)] at q
    have q2 : Post (k (acc ++ [], s)) P R := q
    rw [List.append_nil] at q2
    exact hd Dl acc s H' j q2
end
def rAddS : V → V → Hp → VK → Prop := fun x y H Q => ∃ i j, x = .str i ∧ y = .str j ∧ i.length + j.length ≤ sizeLine ∧ Q (.str (i ++ j)) H
theorem op_addS {X : Cx} : OpR X (binaryOp .Add) rAddS := op_add_str
theorem h_addS {H : Hp} {Q : VK} {i j : Str} (hz : i.length + j.length ≤ 1000000) (h : Q (.str (i ++ j)) H) : rAddS (.str i) (.str j) H Q := ⟨i, j, rfl, rfl, Nat.le_trans hz (by decide), h⟩
theorem h_fmt {te : TE} {σ : L2.St} {H : Hp} {Q : VK} (h : te σ H fun x H1 => (∃ y : Str, x = .str y ∧ y.length ≤ sizeLine ∧ Q (.str y) H1) ∨ ∃ i : Int, x = .int i ∧ i.natAbs.log2 < 1920 ∧ Q (.str (toString i)) H1) : tFmt te σ H Q := h
theorem h_js {t : TE} {ts : List TE} {acc : Str} {σ : L2.St} {H : Hp} {Q : Str → Hp → Prop} (h : t σ H fun x H1 => ∃ y : Str, x = .str y ∧ (acc ++ y).length ≤ sizeLine ∧ tJs ts (acc ++ y) σ H1 Q) : tJs (t :: ts) acc σ H Q := h
theorem h_jsS {ts : List TE} {acc y : Str} {σ : L2.St} {H : Hp} {Q : Str → Hp → Prop} (hz : (acc ++ y).length ≤ 1000000) (h : tJs ts (acc ++ y) σ H Q) : ∃ z : Str, V.str y = .str z ∧ (acc ++ z).length ≤ sizeLine ∧ tJs ts (acc ++ z) σ H Q := ⟨y, rfl, Nat.le_trans hz (by decide), h⟩
theorem h_jsN {acc : Str} {σ : L2.St} {H : Hp} {Q : Str → Hp → Prop} (h : Q acc H) : tJs [] acc σ H Q := h
def tJoin (ts : List TE) : TE := fun σ H Q => tJs ts Str.empty σ H fun out H1 => Q (.str out) H1
theorem h_join {ts : List TE} {σ : L2.St} {H : Hp} {Q : VK} (h : tJs ts Str.empty σ H fun out H1 => Q (.str out) H1) : tJoin ts σ H Q := h
/-- str(o), o of one of several classes -/
def rStrO (A : Addr → Sp → Prop) : List V → Hp → VK → Prop := fun vs H Q => ∃ (a C dx : Addr) (fs : List (Str × V)) (sp : Sp), vs = [V.ref a] ∧ H a = some (.ins C dx fs) ∧ A C sp ∧ sp [V.ref a] H (fun v H2 => ∃ y, v = .str y ∧ Q v H2) (fun _ _ _ => False)
theorem cr_strO {X : Cx} {A : Addr → Sp → Prop} {k : Nat} (hA : ∀ C sp, A C sp → MAlt X.prog X.w X.K X.mg X.base CX0 k "__str__" C sp) (hr : Room (k + 1) X.A) : CallR X (.type "str") (rStrO A) := by
  intro pins s σ H xs us Q I r h
  obtain ⟨a, C, dx, fs, sp, rfl, ea, hAC, q⟩ := h
  cases r with
  | cons r1 r2 =>
    cases r2
    obtain rfl : _ = Value.ref a := r1
    obtain ⟨f, fd, ps, c, hm, F, hb⟩ := (hA C sp hAC).ex
    obtain ⟨mA, O, _⟩ := ins_get I.hok ea
    obtain ⟨od, J, _⟩ := O.look
    have un := hr.un
    have dp := hr.dp
    refine PySem.W.kso_call (by show X.A.in1.in1.units < cLine; simp only [Around.in1]; omega) I.kIn J hm.at_ hm.fn ?_
    have hr' : Room k X.A.in1.in1 := ⟨hr.hd, by show X.A.depth + 3 * k + 5 < recursionLimit; omega, by simp only [Around.in1]; omega⟩
    have r2 : Vals [V.ref a] [Value.ref a] := .cons rfl .nil
    have hl : ([Value.ref a] ++ []).length = ps.length := F.len _ _ _ _ q
    refine wpAny_call (codeAny_mono (F.run X.A.in1.in1 X.stack s H ⟨[.ref a], []⟩ [.ref a] [V.ref a] _ _ hr' I.env0.in1.in1 (hb s [.ref a] I.kIn hl) r2 q) fun r s' hq => ?_)
    cases r with
    | error e => exact False.elim hq
    | ok fl =>
      cases fl with
      | ret u =>
        obtain ⟨v, H', I', rv, y, rfl, q2⟩ := I.after hq
        obtain ⟨t, rfl⟩ := rv
        exact ⟨.str y, H', I', ⟨t, rfl⟩, q2⟩
      | next => exact False.elim hq
      | brk => exact False.elim hq
      | cont => exact False.elim hq
theorem h_strO {A : Addr → Sp → Prop} {H : Hp} {Q : VK} {v : V} (h : ∃ (a C dx : Addr) (fs : List (Str × V)) (sp : Sp), v = .ref a ∧ H a = some (.ins C dx fs) ∧ A C sp ∧ sp [v] H (fun v H2 => ∃ y, v = .str y ∧ Q v H2) (fun _ _ _ => False)) : rStrO A [v] H Q := by
  obtain ⟨a, C, dx, fs, sp, rfl, q⟩ := h
  exact ⟨a, C, dx, fs, sp, rfl, q⟩
end Y

set_option Elab.async false
set_option linter.all false
set_option maxRecDepth 100000
set_option maxHeartbeats 4000000
/-! # lists within what was told, free at the entry: they may be written -/
namespace Y
open PySem PySem.Spec PyProof.Rows
open L2
open Enc (enc)
section
variable {K : PySem.W.Frag} {σ : L2.St} {H : Hp} {Q : VK} {g : TG} {tt : TT} {te : TE} {β S R' : Type} {P : β → Prop} {R : Err → Prop}
def LcR2 (ws : List V) (g : TG) (tt : TT) (te : TE) (vs : List Nat) (σ : L2.St) (H : Hp) (Q : VK) : Prop := tLc (iRng2 (fun _ H Q => Q ws H)) g tt te vs σ H Q
theorem h_lcR2E {vs : List Nat} {ta : TA} (h : ta σ H fun ws H1 => LcR2 ws g tt te vs σ H1 Q) : tLc (iRng2 ta) g tt te vs σ H Q := h
theorem h_lcR2 {lo hi : Int} {s0 : S} {f : Int → S → Res (Option R' × S)} {k : List R' × S → Res β} {vs : List Nat} (hP : Post ((compR (rngI lo hi) s0 f).bind k) P R)
    (J : Addr → List R' → S → Hp → Prop) (h0 : ∀ Dl, H Dl = none → J Dl [] s0 (upd H Dl (.lst [])))
    (hb : ∀ (Dl : Addr) (N : Hp → Prop) (T : Option R' × S → Prop) (x : Int) acc s H', J Dl acc s H' → lo ≤ x → x < hi → acc.length < sizeLine → (∀ b s' H2, J Dl (acc ++ [b]) s' H2 → T (some b, s') → N H2) → (∀ s' H2, J Dl acc s' H2 → T (none, s') → N H2) → Post (f x s) T R →
      g (.int x) (wipe σ vs) H' (LcT σ vs tt te Dl N))
    (hd : ∀ Dl acc s H', J Dl acc s H' → Post (k (acc, s)) P R → Q (.ref Dl) H') (hz2 : (-(2 ^ 62) ≤ lo ∧ lo < 2 ^ 62) ∧ -(2 ^ 62) ≤ hi ∧ hi < 2 ^ 62) : LcR2 [.int lo, .int hi] g tt te vs σ H Q := by
  unfold compR at hP
  have hz : (rngI lo hi).length ≤ 1000000 := by
    by_cases c : (rngI lo hi).length ≤ 1000000
    · exact c
    · unfold guardR at hP; rw [if_neg c] at hP; exact hP.elim
  unfold guardR at hP
  rw [if_pos hz] at hP
  rw [rngI_len] at hz
  refine ⟨lo, hi, rfl, ⟨hz2.1.1, hz2.1.2, hz2.2.1, hz2.2.2⟩, fun Dl hD => ?_⟩
  refine lc_range (lo := lo) (n := (hi - lo).toNat) (fun i H' => ∃ acc s, J Dl acc s H' ∧ acc.length ≤ i ∧ Post ((compL ((rngI lo hi).drop i) s f).bind fun q => k (acc ++ q.1, q.2)) P R) ⟨[], s0, h0 Dl hD, Nat.le_refl _, hP⟩ ?_ ?_
  · rintro i H' hi' ⟨acc, s, j, hn, q⟩
    have hx := rngI_get (lo := lo) (hi := hi) (i := i) (by omega)
    exact hb Dl _ _ (lo + (i : Int)) acc s H' j (by omega) (by omega) (Nat.lt_of_le_of_lt (Nat.le_trans hn (Nat.le_trans (Nat.le_of_lt hi') hz)) (by decide)) (fun b s' H2 j2 t2 => ⟨acc ++ [b], s', j2, by rw [List.length_append]; exact Nat.succ_le_succ hn, t2⟩) (fun s' H2 j2 t2 => ⟨acc, s', j2, Nat.le_succ_of_le hn, t2⟩) (q.compS hx)
  · rintro H' ⟨acc, s, j, _, q⟩
    rw [List.drop_eq_nil_of_le (by rw [rngI_len]; omega)] at q
    have q2 : Post (k (acc ++ [], s)) P R := q
    rw [List.append_nil] at q2
    exact hd Dl acc s H' j q2
end
abbrev Bx3 := Tp3 Int (List Int) Int
abbrev Ix3 := Tp3 Int Int (List Int)
section
variable {K : PySem.W.Frag} {B B' B0 H H' H0 : Hp} {Q : VK} {xs ys : List V} {ds : List D} {p q : Addr} {v y : V} {W : List Addr}
theorem h_nwLn (w : Ex B H) (r : RepL K B xs ds) (h : ∀ p B' H', H p = none → (∃ ws, B' p = some (.lst ws) ∧ RepL K B' ws ds) → Stp [] B H B' H' → Rep K B' (.ref p) (.lst ds) → Q (.ref p) H') : NwL xs H Q :=
  fun p hp => h p _ _ hp ⟨xs, upd_same, r.mono (Ex.new (w.none hp))⟩ (Stp.new w hp) (.lst (SqL.of upd_same) (r.mono (Ex.new (w.none hp))))
theorem h_newTn (w : Ex B H) (r : RepL K B xs ds) (h : ∀ p B' H', B' p = some (.tup xs) → Stp [] B H B' H' → Rep K B' (.ref p) (.tup ds) → Q (.ref p) H') (hn : xs.length ≤ sizeLine) : NewT xs H Q :=
  ⟨hn, fun p hp => h p _ _ upd_same (Stp.new w hp) (.tup (SqT.of upd_same) (r.mono (Ex.new (w.none hp))))⟩
/-- a list that stands in the known part -/
def BLst (K : PySem.W.Frag) (B : Hp) (p : Addr) (ds : List D) : Prop := ∃ ws, B p = some (.lst ws) ∧ RepL K B ws ds
theorem BLst.mono (h : BLst K B p ds) (e : Ex B B') : BLst K B' p ds := by
  obtain ⟨ws, h1, h2⟩ := h
  exact ⟨ws, e _ _ h1, h2.mono e⟩
theorem BLst.rep (h : BLst K B p ds) : Rep K B (.ref p) (.lst ds) := by
  obtain ⟨ws, h1, h2⟩ := h
  exact .lst (SqL.of h1) h2
/-- a box that was told: its body is new -/
def LB (K : PySem.W.Frag) (B H : Hp) (v : V) : Option Bx3 → Prop
  | none => v = .non
  | some x => ∃ t p, v = .ref t ∧ B t = some (.tup [.int x.a, .ref p, .int x.c]) ∧ BLst K B p (x.b.map enc) ∧ H p = none
theorem LB.rep {r : Option Bx3} (h : LB K B H v r) : Rep K B v (enc r) := by
  cases r with
  | none => rw [show v = .non from h]; exact .non
  | some x =>
    obtain ⟨t, p, rfl, ht, hp, _⟩ := h
    exact .tup (SqT.of ht) (.cons (.int _) (.cons hp.rep (.cons (.int _) .nil)))
theorem LB.mono {r : Option Bx3} (h : LB K B H v r) (e : Ex B B') : LB K B' H v r := by
  cases r with
  | none => exact h
  | some x =>
    obtain ⟨t, p, rfl, ht, hp, hn⟩ := h
    exact ⟨t, p, rfl, e _ _ ht, hp.mono e, hn⟩
def RetB (K : PySem.W.Frag) (B H : Hp) (r : Option Bx3) (Q : VK) : Prop := ∀ v B' H', Stp [] B H B' H' → LB K B' H v r → Q v H'
/-- boxes that were told -/
def LX (K : PySem.W.Frag) (B H : Hp) (q : Addr) (v : V) (x : Ix3) : Prop := ∃ t p, v = .ref t ∧ B t = some (.tup [.int x.a, .int x.b, .ref p]) ∧ BLst K B p (x.c.map enc) ∧ H p = none ∧ p ≠ q
inductive LXs (K : PySem.W.Frag) (B H : Hp) (q : Addr) : List V → List Ix3 → Prop where
  | nil : LXs K B H q [] []
  | cons {v : V} {x : Ix3} {vs : List V} {l : List Ix3} (h : LX K B H q v x) (t : LXs K B H q vs l) : LXs K B H q (v :: vs) (x :: l)
theorem LX.rep {x : Ix3} (h : LX K B H q v x) : Rep K B v (enc x) := by
  obtain ⟨t, p, rfl, ht, hp, _⟩ := h
  exact .tup (SqT.of ht) (.cons (.int _) (.cons (.int _) (.cons hp.rep .nil)))
theorem LX.mono {x : Ix3} (h : LX K B H q v x) (e : Ex B B') : LX K B' H q v x := by
  obtain ⟨t, p, rfl, ht, hp, hn⟩ := h
  exact ⟨t, p, rfl, e _ _ ht, hp.mono e, hn⟩
theorem LXs.rep : ∀ {vs : List V} {l : List Ix3}, LXs K B H q vs l → RepL K B vs (l.map enc)
  | _, _, .nil => .nil
  | _, _, .cons h t => .cons h.rep t.rep
theorem LXs.mono (e : Ex B B') : ∀ {vs : List V} {l : List Ix3}, LXs K B H q vs l → LXs K B' H q vs l
  | _, _, .nil => .nil
  | _, _, .cons h t => .cons (h.mono e) (LXs.mono e t)
theorem LXs.snoc {x : Ix3} (h : LX K B H q v x) : ∀ {vs : List V} {l : List Ix3}, LXs K B H q vs l → LXs K B H q (vs ++ [v]) (l ++ [x])
  | _, _, .nil => .cons h .nil
  | _, _, .cons g t => .cons g (LXs.snoc h t)
def FaX (K : PySem.W.Frag) (B H H' : Hp) (q : Addr) (l : List Ix3) : Prop := B q = none ∧ ∃ xs, H' q = some (.lst xs) ∧ LXs K B H q xs l
theorem FaX.mu {l : List Ix3} (f : FaX K B H0 H q l) : Mu K B H q (l.map enc) := by
  obtain ⟨hb, xs, hq, r⟩ := f
  exact ⟨hb, xs, hq, r.rep⟩
theorem FaX.nil (w : Ex B H) (h : H q = none) : FaX K B H0 (upd H q (.lst [])) q [] := ⟨w.none h, [], upd_same, .nil⟩
theorem FaX.step {l : List Ix3} (f : FaX K B H0 H q l) (s : Stp W B H B' H') (h : q ∉ W) : FaX K B' H0 H' q l := by
  obtain ⟨hb, xs, hq, r⟩ := f
  exact ⟨s.nw _ _ hb hq, xs, s.fr _ _ h hq, r.mono s.ex⟩
def RetX (K : PySem.W.Frag) (B H : Hp) (r : List Ix3) (Q : VK) : Prop := ∀ q B' H', Stp [] B H B' H' → H q = none → FaX K B' H H' q r → Q (.ref q) H'
theorem h_newX (w : Ex B H) (h : ∀ p H', H p = none → Stp [] B H B H' → FaX K B H0 H' p [] → Q (.ref p) H') : NewL [] H Q :=
  ⟨Nat.zero_le _, fun p hp => h p _ hp (Stp.newM w hp) (FaX.nil w hp)⟩
theorem h_appX {l : List Ix3} {b : Ix3} (w : Ex B H) (f : FaX K B H0 H q l) (ry : LX K B H0 q y b) (hz : l.length < 1000000) (h : ∀ H', Stp [q] B H B H' → FaX K B H0 H' q (l ++ [b]) → Q .non H') : rAppend (.ref q) [y] H Q := by
  have m := f.mu
  obtain ⟨hb, xs, hp, hr⟩ := f
  have hlen : xs.length = l.length := by rw [hr.rep.length, List.length_map]
  refine ⟨q, xs, y, rfl, rfl, hp, by rw [hlen]; exact Nat.lt_of_lt_of_le hz (by decide), ?_⟩
  have r2 := hr.snoc ry
  obtain ⟨s, _⟩ := Stp.mut w m r2.rep
  exact h _ s ⟨hb, xs ++ [y], upd_same, r2⟩
/-! ### and now they are written, and never read again -/
theorem Stp.back (a : Stp W B H B' H') : Stp W B H B H' := ⟨Ex.refl B, a.ex.trans a.ok, a.fr, a.al, fun _ _ h _ => h⟩
theorem Stp.wr {o : HO} (a : Stp W B H B H') (h0 : H p = none) (w : Ex B H) (h : ∃ u, H' p = some u) : Stp W B H B (upd H' p o) := a.own h0 (w.none h0) h
/-- one of them, somewhen -/
def RvE (H0 H : Hp) (q : Addr) (M : Nat) (v : V) : Prop := ∃ t a b p zs, v = .ref t ∧ H t = some (.tup [.int a, .int b, .ref p]) ∧ H p = some (.lst ((zs : List Int).map V.int)) ∧ zs.length ≤ M ∧ H0 p = none ∧ p ≠ q
theorem ints_of : ∀ {vs : List V} {zs : List Int}, RepL K B vs (zs.map enc) → vs = zs.map V.int
  | _, [], .nil => rfl
  | _, z :: zs, .cons h t => by
    cases h
    rw [ints_of t]
    rfl
theorem repL_ints : ∀ (zs : List Int), RepL K B (zs.map V.int) (zs.map enc)
  | [] => .nil
  | z :: zs => .cons (.int z) (repL_ints zs)
theorem LXs.rv (w : Ex B H) {M : Nat} : ∀ {vs : List V} {l : List Ix3}, LXs K B H0 q vs l → (∀ x ∈ l, x.c.length ≤ M) → ∀ v ∈ vs, RvE H0 H q M v
  | _, _, .nil, _ => fun _ m => nomatch m
  | _, x :: l, .cons h t, hM => fun v m => by
    rcases List.mem_cons.mp m with rfl | m
    · obtain ⟨t, p, rfl, ht, ⟨ws, e1, e2⟩, hn, ne⟩ := h
      rw [ints_of e2] at e1
      exact ⟨t, x.a, x.b, p, x.c, rfl, w _ _ ht, w _ _ e1, hM x List.mem_cons_self, hn, ne⟩
    · exact LXs.rv w t (fun y m => hM y (List.mem_cons_of_mem _ m)) v m
/-- where each turn may write one of them -/
def Rav (B H H' : Hp) (q : Addr) (xs : List V) (M : Nat) : Prop := Stp [] B H B H' ∧ H' q = some (.lst xs) ∧ ∀ v ∈ xs, RvE H H' q M v
theorem Rav.wr {M : Nat} {t p : Addr} {a b : Int} {zs : List Int} (w : Ex B H) (r : Rav B H H' q xs M) (hp : H' p = some (.lst (zs.map V.int))) (hz : zs.length ≤ M) (h0 : H p = none) (ne : p ≠ q) : Rav B H (upd H' p (.lst ((zs ++ [0]).map V.int))) q xs (M + 1) := by
  obtain ⟨s, hq, hv⟩ := r
  refine ⟨s.wr h0 w ⟨_, hp⟩, by rw [upd_ne ne.symm]; exact hq, fun v m => ?_⟩
  obtain ⟨t, a, b, p2, z2, rfl, ht, hp2, hz2, h2, n2⟩ := hv v m
  have tp : t ≠ p := fun e => by rw [e, hp] at ht; exact nomatch ht
  by_cases e : p2 = p
  · subst e
    exact ⟨t, a, b, p2, zs ++ [0], rfl, by rw [upd_ne tp]; exact ht, upd_same, by rw [List.length_append]; exact Nat.succ_le_succ hz, h2, n2⟩
  · exact ⟨t, a, b, p2, z2, rfl, by rw [upd_ne tp]; exact ht, by rw [upd_ne e]; exact hp2, Nat.le_succ_of_le hz2, h2, n2⟩
theorem h_forRav {g : TG} {tb : TS} {D' : Ends} {σ : L2.St} {M n : Nat} (w : Ex B H) (r : Rav B H H' q xs M) (hn : xs.length = n) (hM : M + n < 1000000) (S : Option V → L2.St) (hσ : ∃ o, σ = S o)
    (hb : ∀ (N : L2.St → Hp → Prop) (t p : Addr) (a b : Int) (zs : List Int) (o : Option V) H2, H2 t = some (.tup [.int a, .int b, .ref p]) → H2 p = some (.lst (zs.map V.int)) → zs.length < 1000000 →
      (∀ o', N (S o') (upd H2 p (.lst ((zs ++ [0]).map V.int)))) → g (.ref t) (S o) H2 fun σ2 H2 => tb { D' with nx := N, ct := N, bk := D'.nx } σ2 H2)
    (hd : ∀ o H2, Stp [] B H B H2 → H2 q = some (.lst xs) → D'.nx (S o) H2) : tFor (iList K (tC (.ref q))) g tb D' σ H' := by
  refine ⟨q, rfl, ⟨xs, SqL.of r.2.1⟩, for_list (K := K) (a := q) (xs := xs) (fun i σ' H2 => (∃ o, σ' = S o) ∧ Rav B H H2 q xs (M + i)) ⟨hσ, r⟩ (fun i σ' H2 _ ⟨_, j⟩ => SqL.of j.2.1) ?_ ?_⟩
  · rintro i v σ' H2 hi ⟨⟨o, rfl⟩, j⟩
    have hil := (List.getElem?_eq_some_iff.mp hi).1
    obtain ⟨t, a, b, p, zs, rfl, ht, hp, hz, h0, ne⟩ := j.2.2 v (List.mem_of_getElem? hi)
    exact hb _ t p a b zs o H2 ht hp (by omega) fun o' => ⟨⟨o', rfl⟩, j.wr (t := t) (a := a) (b := b) w hp hz h0 ne⟩
  · rintro σ' H2 ⟨⟨o, rfl⟩, j⟩
    exact hd o H2 j.1 j.2.1
theorem h_bmR {r : V → List V → Hp → VK → Prop} {t : TA} {σ : L2.St} (h : H p = some (.lst xs)) (g : t σ H fun ys H2 => r (.ref p) ys H2 Q) : Bm K "list" r t σ (.ref p) H Q := ⟨.inl ⟨rfl, _, .inl (.inl h)⟩, g⟩
theorem h_bmR0 {r : V → List V → Hp → VK → Prop} {σ : L2.St} (h : H p = some (.lst xs)) (g : r (.ref p) [] H Q) : Bm0 K "list" r σ (.ref p) H Q := ⟨.inl ⟨rfl, _, .inl (.inl h)⟩, g⟩
theorem h_appR (h : H p = some (.lst xs)) (hz : xs.length < 1000000) (g : Q .non (upd H p (.lst (xs ++ [y])))) : rAppend (.ref p) [y] H Q := ⟨p, xs, y, rfl, rfl, h, Nat.lt_of_lt_of_le hz (by decide), g⟩
theorem h_revR (h : H p = some (.lst xs)) (g : Q .non (upd H p (.lst xs.reverse))) : rReverse (.ref p) [] H Q := ⟨p, xs, rfl, rfl, h, g⟩
theorem h_revRv (h : H p = some (.lst xs)) (s : Stp [] B H0 B H) (w : Ex B H0) (h0 : H0 p = none) (g : ∀ H', Stp [] B H0 B H' → H' p = some (.lst xs.reverse) → Q .non H') : rReverse (.ref p) [] H Q :=
  h_revR h (g _ (s.wr h0 w ⟨_, h⟩) upd_same)
theorem h_appRv (h : H p = some (.lst xs)) (hz : xs.length < 1000000) (s : Stp [] B H0 B H) (w : Ex B H0) (h0 : H0 p = none) (g : ∀ H', Stp [] B H0 B H' → H' p = some (.lst (xs ++ [y])) → Q .non H') : rAppend (.ref p) [y] H Q :=
  h_appR h hz (g _ (s.wr h0 w ⟨_, h⟩) upd_same)
theorem Rav.start {B1 H1 : Hp} {l : List Ix3} (s : Stp [] B H B1 H1) (fx : FaX K B1 H H1 q l) (gd : (l.all fun x => decide (x.c.length + l.length < 999999)) = true) : ∃ xs M, Rav B H H1 q xs M ∧ xs.length = l.length ∧ M + l.length < 1000000 := by
  obtain ⟨hb, xs, hq, r⟩ := fx
  have hl : xs.length = l.length := by rw [r.rep.length, List.length_map]
  have hg : ∀ x ∈ l, x.c.length + l.length < 999999 := fun x m => of_decide_eq_true (List.all_eq_true.mp gd x m)
  refine ⟨xs, 999999 - l.length, ⟨s.back, hq, r.rv s.ok fun x m => by have := hg x m; omega⟩, hl, ?_⟩
  cases l with
  | nil => decide
  | cons x l =>
    have := hg x List.mem_cons_self
    omega
theorem isA_tup3 {a b : Int} {zs : List Int} : isA "tuple" (enc (⟨a, b, zs⟩ : Ix3)) = true := (by decide +kernel : isS "tuple" "tuple" = true)
theorem isA_lst1 {zs : List Int} : isA "list" (enc zs) = true := (by decide +kernel : isS "list" "list" = true)
end
end Y

set_option Elab.async false
set_option linter.all false
set_option maxRecDepth 100000
set_option maxHeartbeats 4000000
/-! # instances that change; what a def hands back and may be written -/
namespace Y
open PySem PySem.Spec PyProof.Rows
open L2
open Enc (enc)
structure Tp6 (α β γ δ ε ζ : Type) where
  a : α
  b : β
  c : γ
  d : δ
  e : ε
  f : ζ
instance {α β γ δ ε ζ : Type} [Enc α] [Enc β] [Enc γ] [Enc δ] [Enc ε] [Enc ζ] : Enc (Tp6 α β γ δ ε ζ) := ⟨fun t => .tup [enc t.a, enc t.b, enc t.c, enc t.d, enc t.e, enc t.f]⟩
structure Tp7 (α β γ δ ε ζ η : Type) where
  a : α
  b : β
  c : γ
  d : δ
  e : ε
  f : ζ
  g : η
instance {α β γ δ ε ζ η : Type} [Enc α] [Enc β] [Enc γ] [Enc δ] [Enc ε] [Enc ζ] [Enc η] : Enc (Tp7 α β γ δ ε ζ η) := ⟨fun t => .tup [enc t.a, enc t.b, enc t.c, enc t.d, enc t.e, enc t.f, enc t.g]⟩
/-- an instance of the class at C, its fields by name -/
def MuN (K : PySem.W.Frag) (C : Addr) (ns : List Str) (B H : Hp) (p : Addr) (ds : List D) : Prop := B p = none ∧ ∃ dx vs, H p = some (.ins C dx (ns.zip vs)) ∧ vs.length = ns.length ∧ RepL K B vs ds
def RetMI (K : PySem.W.Frag) (C : Addr) (ns : List Str) (p : Addr) (B H : Hp) (d : D) (ds : List D) (Q : VK) : Prop := ∀ v B' H', Stp [p] B H B' H' → MuN K C ns B' H' p ds → Rep K B' v d → Q v H'
def nthR {α : Type} (l : List α) (k : Nat) : Res α := match l[k]? with | some x => .ok x | none => .stuck
theorem Post.nth {α β : Type} {l : List α} {k : Nat} {f : α → Res β} {P : β → Prop} {R : Err → Prop} (h : Post ((nthR l k).bind f) P R) : ∃ x, l[k]? = Option.some x ∧ Post (f x) P R := by
  unfold nthR at h
  cases e : l[k]? with
  | none => rw [e] at h; exact h.elim
  | some x => rw [e] at h; exact ⟨x, rfl, h⟩
/-- the place of a field -/
def ixS (f : Str) : List Str → Option Nat
  | [] => none
  | g :: r => if g = f then some 0 else (ixS f r).map (· + 1)
theorem lk_zip {f : Str} {v : V} : ∀ {ns : List Str} {vs : List V} {k : Nat}, ixS f ns = some k → vs[k]? = some v → (ns.zip vs).lookup f = some v
  | [], _, _, h, _ => nomatch h
  | g :: r, [], k, _, e => by simp at e
  | g :: r, x :: vs, k, h, e => by
    unfold ixS at h
    show (match f == g with | true => some x | false => (r.zip vs).lookup f) = some v
    by_cases c : g = f
    · rw [if_pos c] at h
      cases h
      rw [show (f == g) = true from beq_iff_eq.mpr c.symm]
      simpa using e
    · rw [if_neg c] at h
      obtain ⟨j, hj, rfl⟩ := Option.map_eq_some_iff.mp h
      rw [show (f == g) = false from beq_eq_false_iff_ne.mpr fun z => c z.symm]
      exact lk_zip hj (by simpa using e)
theorem put_zip {f : Str} {v : V} : ∀ {ns : List Str} {vs : List V} {k : Nat}, ixS f ns = some k → vs.length = ns.length → putF f v (ns.zip vs) = ns.zip (vs.set k v)
  | [], _, _, h, _ => nomatch h
  | g :: r, [], k, _, e => nomatch e
  | g :: r, x :: vs, k, h, e => by
    unfold ixS at h
    show (if g = f then (g, v) :: r.zip vs else (g, x) :: putF f v (r.zip vs)) = _
    by_cases c : g = f
    · rw [if_pos c] at h ⊢
      cases h
      rfl
    · rw [if_neg c] at h ⊢
      obtain ⟨j, hj, rfl⟩ := Option.map_eq_some_iff.mp h
      rw [put_zip hj (Nat.succ.inj e)]
      rfl
theorem lk_none {m : Str} : ∀ {ns : List Str} {vs : List V}, ns.contains m = false → (ns.zip vs).lookup m = none
  | [], _, _ => rfl
  | g :: r, [], _ => rfl
  | g :: r, x :: vs, h => by
    rw [List.contains_cons, Bool.or_eq_false_iff] at h
    show (match m == g with | true => some x | false => (r.zip vs).lookup m) = none
    rw [h.1]
    exact lk_none h.2
section
variable {K : PySem.W.Frag} {mg : Str → Option Value} {B B' H H' H0 : Hp} {W : List Addr} {C p q dx : Addr} {ns : List Str} {ds es : List D} {d : D} {v : V} {Q : VK} {xs : List V} {f m nm : Str} {ta tv : TE} {σ : L2.St} {D' : Ends} {k : Nat} {b : D}
theorem MuN.step (m : MuN K C ns B H p ds) (s : Stp W B H B' H') (h : p ∉ W) : MuN K C ns B' H' p ds := by
  obtain ⟨hb, dx, vs, hp, hl, r⟩ := m
  exact ⟨s.nw p _ hb hp, dx, vs, s.fr p _ h hp, hl, r.mono s.ex⟩
theorem MuN.ne (m : MuN K C ns B H p ds) (h : H q = none) : p ≠ q := by
  obtain ⟨hb, dx, vs, hp, hl, r⟩ := m
  exact ne_of_none hp h
theorem MuN.kp (m : MuN K C ns B H q es) (e : Ex B B') (k : ∀ q, q ≠ p → B q = none → B' q = none) (n : q ≠ p) : MuN K C ns B' H q es := by
  obtain ⟨hb, dx, vs, hp, hl, r⟩ := m
  exact ⟨k q n hb, dx, vs, hp, hl, r.mono e⟩
theorem h_fldN (m : MuN K C ns B H p ds) (T : KI K mg nm C) (n : NoAttr K C f) (hd : ds[k]? = some d) (h : ∀ u, Rep K B u d → Q u H) (hk : ixS f ns = some k := by decide +kernel) : Fld K f (.ref p) H Q := by
  obtain ⟨hb, dx, vs, hp, hl, r⟩ := m
  obtain ⟨u, hu, ru⟩ := r.get hd
  exact ⟨p, C, dx, _, u, rfl, hp, T.c, n, lk_zip hk hu, h u ru⟩
theorem h_sfldE (h : tv σ H fun y H1 => ta σ H1 fun x H2 => ∃ a C dx fs, x = .ref a ∧ H2 a = some (.ins C dx fs) ∧ Cls K C ∧ NoAttr K C f ∧ fs.length < 1000 ∧ D'.nx σ (upd H2 a (.ins C dx (putF f y fs)))) : sFld K ta tv f D' σ H := h
theorem h_sfldN (w : Ex B H) (m : MuN K C ns B H p ds) (T : KI K mg nm C) (n : NoAttr K C f) (r : Rep K B v b) (h : ∀ H', Stp [p] B H B H' → MuN K C ns B H' p (ds.set k b) → D'.nx σ H') (hk : ixS f ns = some k := by decide +kernel) (hn : ns.length < 1000 := by decide) :
    ∃ a C dx fs, V.ref p = .ref a ∧ H a = some (.ins C dx fs) ∧ Cls K C ∧ NoAttr K C f ∧ fs.length < 1000 ∧ D'.nx σ (upd H a (.ins C dx (putF f v fs))) := by
  obtain ⟨hb, dx, vs, hp, hl, r0⟩ := m
  refine ⟨p, C, dx, _, rfl, hp, T.c, n, by rw [List.length_zip, hl, Nat.min_self]; exact hn, ?_⟩
  rw [put_zip hk hl]
  exact h _ (Stp.set w (by simp) hb hp) ⟨hb, dx, _, upd_same, by rw [List.length_set]; exact hl, r0.set r⟩
/-- C(..), where the instance may change -/
theorem h_makeN {us : List V} {E : XK} {sp : Sp} {R : Addr → Hp → Prop} (w : Ex B H) (hl : us.length = ns.length) (r : RepL K B us ds)
    (hsp : ∀ x dx H', H' x = some (.ins C dx []) → ∀ Q : VK, Q .non (upd H' x (.ins C dx (ns.zip us))) → sp (.ref x :: xs) H' Q E)
    (h : ∀ p B' H', Stp [] B H B' H' → H p = none → MuN K C ns B' H' p ds → R p H') :
    ∀ x dx, H x = none → H dx = none → dx ≠ x → sp (.ref x :: (xs ++ [])) (upd (upd H dx (.own x)) x (.ins C dx [])) (fun v H2 => v = .non ∧ R x H2) E := fun x dx hx hdx ne => by
  rw [List.append_nil]
  refine hsp x dx _ upd_same _ ⟨rfl, ?_⟩
  rw [upd_upd]
  have s1 : Stp [] B H (upd B dx (.own x)) (upd H dx (.own x)) := Stp.new w hdx
  have hp' : (upd H dx (.own x)) x = none := by rw [upd_ne ne.symm]; exact hx
  have s2 := Stp.newM (W := []) s1.ok hp' (o := .ins C dx (ns.zip us))
  exact h x _ _ (s1.trans s2) hx ⟨by rw [upd_ne ne.symm]; exact w.none hx, dx, us, upd_same, hl, r.mono s1.ex⟩
/-- a method of what may change -/
def AOne (C : Addr) (sp : Sp) : Addr → Sp → Prop := fun C' sp' => C' = C ∧ sp' = sp
theorem AOne.alt {P : Program} {wo : World} {base : Heap} {CX : CXT} {k : Nat} {sp : Sp} (L : MAlt P wo K mg base CX k m C sp) : ∀ C' sp', AOne C sp C' sp' → MAlt P wo K mg base CX k m C' sp' := by
  rintro _ _ ⟨rfl, rfl⟩
  exact L
theorem MuN.meth {sp : Sp} {t : TA} {e : XK} (mu : MuN K C ns B H p ds) (h : t σ H fun vs H2 => sp (.ref p :: vs) H2 Q e) (hm : ns.contains m = false := by decide +kernel) :
    ∃ a C' dx fs sp', V.ref p = .ref a ∧ H a = some (.ins C' dx fs) ∧ AOne C sp C' sp' ∧ fs.lookup m = none ∧ t σ H fun vs H2 => sp' (V.ref p :: vs) H2 Q e := by
  obtain ⟨hb, dx, vs, hp, hl, r⟩ := mu
  exact ⟨p, C, dx, _, sp, rfl, hp, ⟨rfl, rfl⟩, lk_none hm, h⟩
end
section
variable {xs : List V} {x y z u v w : V}
theorem tup5 (hl : xs.length = 5) (h0 : atI xs 0 = some x) (h1 : atI xs 1 = some y) (h2 : atI xs 2 = some z) (h3 : atI xs 3 = some u) (h4 : atI xs 4 = some v) : xs = [x, y, z, u, v] := by
  match xs, hl with
  | [a, b, c, d, e], _ =>
    cases h0; cases h1; cases h2; cases h3; cases h4
    rfl
theorem tup6 (hl : xs.length = 6) (h0 : atI xs 0 = some x) (h1 : atI xs 1 = some y) (h2 : atI xs 2 = some z) (h3 : atI xs 3 = some u) (h4 : atI xs 4 = some v) (h5 : atI xs 5 = some w) : xs = [x, y, z, u, v, w] := by
  match xs, hl with
  | [a, b, c, d, e, f], _ =>
    cases h0; cases h1; cases h2; cases h3; cases h4; cases h5
    rfl
end
/-! ### what was told is new, its lists may be written -/
mutual
def noL : D → Bool
  | .lst _ => false
  | .dic _ => false
  | .obj _ _ => false
  | .tup ds => noLs ds
  | _ => true
def noLs : List D → Bool
  | [] => true
  | d :: r => noL d && noLs r
end
mutual
inductive RepN (K : PySem.W.Frag) (B : Hp) : Hp → V → D → Prop where
  | sc {H : Hp} {v : V} {d : D} (r : Rep K B v d) (h : noL d = true) : RepN K B H v d
  | lst {H : Hp} {p : Addr} {xs : List V} {ds : List D} (h : B p = some (.lst xs)) (n : H p = none) (r : RepNL K B (L2.upd H p (.lst [])) xs ds) : RepN K B H (.ref p) (.lst ds)
  | tup {H : Hp} {p : Addr} {xs : List V} {ds : List D} (h : SqT K B p xs) (r : RepNL K B H xs ds) : RepN K B H (.ref p) (.tup ds)
inductive RepNL (K : PySem.W.Frag) (B : Hp) : Hp → List V → List D → Prop where
  | nil {H : Hp} : RepNL K B H [] []
  | cons {H : Hp} {v : V} {d : D} {vs : List V} {ds : List D} (h : RepN K B H v d) (t : RepNL K B H vs ds) : RepNL K B H (v :: vs) (d :: ds)
end
section
variable {K : PySem.W.Frag} {B B' H H' H0 : Hp} {W : List Addr} {C p q dx : Addr} {ns : List Str} {ds es : List D} {d : D} {v : V} {Q : VK} {xs : List V}
mutual
theorem RepN.mono (e : Ex B B') : ∀ {H : Hp} {v : V} {d : D}, RepN K B H v d → RepN K B' H v d
  | _, _, _, .sc r h => .sc (r.mono e) h
  | _, _, _, .lst h n r => .lst (e _ _ h) n (RepNL.mono e r)
  | _, _, _, .tup h r => .tup (e.t h) (RepNL.mono e r)
theorem RepNL.mono (e : Ex B B') : ∀ {H : Hp} {vs : List V} {ds : List D}, RepNL K B H vs ds → RepNL K B' H vs ds
  | _, _, _, .nil => .nil
  | _, _, _, .cons h t => .cons (RepN.mono e h) (RepNL.mono e t)
end
theorem ago_upd {q : Addr} {o o' : HO} (e : ∀ p, H p = none → H' p = none) : ∀ p, (L2.upd H q o) p = none → (L2.upd H' q o') p = none := fun p h => by
  by_cases c : p = q
  · rw [c, upd_same] at h; exact nomatch h
  · rw [upd_ne c] at h ⊢; exact e p h
mutual
theorem RepN.ago : ∀ {H H' : Hp} (e : ∀ p, H p = none → H' p = none) {v : V} {d : D}, RepN K B H v d → RepN K B H' v d
  | _, _, _, _, _, .sc r h => .sc r h
  | _, _, e, _, _, .lst h n r => .lst h (e _ n) (RepNL.ago (ago_upd e) r)
  | _, _, e, _, _, .tup h r => .tup h (RepNL.ago e r)
theorem RepNL.ago : ∀ {H H' : Hp} (e : ∀ p, H p = none → H' p = none) {vs : List V} {ds : List D}, RepNL K B H vs ds → RepNL K B H' vs ds
  | _, _, _, _, _, .nil => .nil
  | _, _, e, _, _, .cons h t => .cons (RepN.ago e h) (RepNL.ago e t)
end
mutual
theorem RepN.rep : ∀ {H : Hp} {v : V} {d : D}, RepN K B H v d → Rep K B v d
  | _, _, _, .sc r _ => r
  | _, _, _, .lst h _ r => .lst (SqL.of h) (RepNL.rep r)
  | _, _, _, .tup h r => .tup h (RepNL.rep r)
theorem RepNL.rep : ∀ {H : Hp} {vs : List V} {ds : List D}, RepNL K B H vs ds → RepL K B vs ds
  | _, _, _, .nil => .nil
  | _, _, _, .cons h t => .cons (RepN.rep h) (RepNL.rep t)
end
theorem RepNL.of : ∀ {vs : List V} {ds : List D}, RepL K B vs ds → noLs ds = true → RepNL K B H vs ds
  | _, _, .nil, _ => .nil
  | _, _, .cons h t, e => by
    have e' : (noL _ && noLs _) = true := e
    rw [Bool.and_eq_true] at e'
    exact .cons (.sc h e'.1) (RepNL.of t e'.2)
theorem RepNL.get : ∀ {vs : List V} {ds : List D} {i : Nat} {d : D}, RepNL K B H vs ds → ds[i]? = some d → ∃ v, vs[i]? = some v ∧ RepN K B H v d
  | _, _, _, _, .nil, e => by simp at e
  | _, _, 0, _, .cons r _, e => by simp at e; subst e; exact ⟨_, rfl, r⟩
  | _, _, i + 1, x, .cons _ t, e => by
    obtain ⟨u, h1, h2⟩ := RepNL.get (i := i) (d := x) t (by simpa using e)
    exact ⟨u, by simpa using h1, h2⟩
theorem RepNL.length : ∀ {vs : List V} {ds : List D}, RepNL K B H vs ds → vs.length = ds.length
  | _, _, .nil => rfl
  | _, _, .cons _ t => congrArg Nat.succ (RepNL.length t)
theorem RepNL.at {vs : List V} {i : Int} (r : RepNL K B H vs ds) (h : atI ds i = some d) : ∃ v, atI vs i = some v ∧ RepN K B H v d := by
  unfold atI at h ⊢
  rw [r.length]
  cases e : ixN ds.length i with
  | none => rw [e] at h; cases h
  | some j => rw [e] at h; exact r.get h
theorem RepNL.snoc {b : D} (h : RepN K B H v b) : ∀ {vs : List V} {ds : List D}, RepNL K B H vs ds → RepNL K B H (vs ++ [v]) (ds ++ [b])
  | _, _, .nil => .cons h .nil
  | _, _, .cons g t => .cons g (RepNL.snoc h t)
theorem RepN.tupE (h : RepN K B H v (.tup ds)) (hn : noLs ds = false) : ∃ p xs, v = .ref p ∧ SqT K B p xs ∧ RepNL K B H xs ds := by
  cases h with
  | sc r h => rw [show noLs ds = true from h] at hn; exact nomatch hn
  | tup h r => exact ⟨_, _, rfl, h, r⟩
theorem RepN.lstE (h : RepN K B H v (.lst ds)) : ∃ p xs, v = .ref p ∧ B p = some (.lst xs) ∧ H p = none ∧ RepNL K B (L2.upd H p (.lst [])) xs ds := by
  cases h with
  | sc r h => exact nomatch h
  | lst h n r => exact ⟨_, _, rfl, h, n, r⟩
/-- back to what was known ahead -/
theorem Stp.back2 {B0 : Hp} (a : Stp W B H B' H') (e : Ex B0 B) : Stp W B0 H B0 H' := ⟨Ex.refl B0, e.trans (a.ex.trans a.ok), a.fr, a.al, fun _ _ h _ => h⟩
def RetN (K : PySem.W.Frag) (B H : Hp) (d : D) (Q : VK) : Prop := ∀ v B' H', Stp [] B H B' H' → RepN K B' H v d → Q v H'
def RetNI (K : PySem.W.Frag) (C : Addr) (ns : List Str) (p : Addr) (B H : Hp) (d : D) (ds : List D) (Q : VK) : Prop := ∀ v B' H', Stp [p] B H B' H' → MuN K C ns B' H' p ds → RepN K B' H v d → Q v H'
/-- a list of our own is kept as it is, and is known to be new -/
theorem Mu.keepN (m : Mu K B H p ds) (hs : noLs ds = true) (h0 : H0 p = none) : ∃ B', Ex B B' ∧ (∀ q, q ≠ p → B q = none → B' q = none) ∧ (∀ W B0 H0, Stp W B0 H0 B H → Ex B0 H0 → H0 p = none → Stp W B0 H0 B' H) ∧ Rep K B' (.ref p) (.lst ds) ∧ RepN K B' H0 (.ref p) (.lst ds) := by
  obtain ⟨hb, xs, hp, r⟩ := m
  exact ⟨L2.upd B p (.lst xs), Ex.new hb, fun q n e => by rw [upd_ne n]; exact e, fun W B0 H0 st w0 h0 => Stp.keep w0 st h0 hb hp, .lst (SqL.of upd_same) (r.mono (Ex.new hb)), .lst upd_same h0 (.of (r.mono (Ex.new hb)) hs)⟩
theorem h_newTN (w : Ex B H) (r : RepL K B xs ds) (rn : RepNL K B H0 xs ds) (h : ∀ p B' H', Stp [] B H B' H' → Rep K B' (.ref p) (.tup ds) → RepN K B' H0 (.ref p) (.tup ds) → Q (.ref p) H') (hn : xs.length ≤ sizeLine) : NewT xs H Q :=
  ⟨hn, fun p hp => h p _ _ (Stp.new w hp) (.tup (SqT.of upd_same) (r.mono (Ex.new (w.none hp)))) (.tup (SqT.of upd_same) (rn.mono (Ex.new (w.none hp))))⟩
/-- a list of our own whose things are new -/
def FaN (K : PySem.W.Frag) (B H0 H : Hp) (q : Addr) (ds : List D) : Prop := B q = none ∧ ∃ xs, H q = some (.lst xs) ∧ RepNL K B (L2.upd H0 q (.lst [])) xs ds
theorem FaN.new (w : Ex B H) (h : H q = none) : FaN K B H0 (L2.upd H q (.lst [])) q [] := ⟨w.none h, [], upd_same, .nil⟩
theorem FaN.step (f : FaN K B H0 H q ds) (s : Stp W B H B' H') (h : q ∉ W) : FaN K B' H0 H' q ds := by
  obtain ⟨hb, xs, hq, r⟩ := f
  exact ⟨s.nw _ _ hb hq, xs, s.fr _ _ h hq, r.mono s.ex⟩
theorem FaN.ne (f : FaN K B H0 H p ds) (h : H q = none) : p ≠ q := by
  obtain ⟨hb, xs, hp, r⟩ := f
  exact ne_of_none hp h
theorem FaN.kp (m : FaN K B H0 H q es) (e : Ex B B') (k : ∀ q, q ≠ p → B q = none → B' q = none) (n : q ≠ p) : FaN K B' H0 H q es := by
  obtain ⟨hb, xs, hp, r⟩ := m
  exact ⟨k q n hb, xs, hp, r.mono e⟩
theorem h_appN {α : Type} [Enc α] {l : List α} {b : α} {y : V} {N : Hp → Prop} (w : Ex B H) (m : FaN K B H0 H q (l.map enc)) (r : RepN K B (L2.upd H0 q (.lst [])) y (enc b)) (hz : l.length < sizeLine) (h : ∀ H', Stp [q] B H B H' → FaN K B H0 H' q ((l ++ [b]).map enc) → N H') : App q N y H := by
  obtain ⟨hb, xs, hq, rr⟩ := m
  refine ⟨xs, hq, by rw [rr.length, List.length_map]; exact hz, h _ (Stp.set w (by simp) hb hq) ⟨hb, xs ++ [y], upd_same, ?_⟩⟩
  rw [List.map_append]
  exact rr.snoc r
theorem FaN.keepN (m : FaN K B H0 H p ds) (h0 : H0 p = none) : ∃ B', Ex B B' ∧ (∀ q, q ≠ p → B q = none → B' q = none) ∧ (∀ W B0 H0, Stp W B0 H0 B H → Ex B0 H0 → H0 p = none → Stp W B0 H0 B' H) ∧ Rep K B' (.ref p) (.lst ds) ∧ RepN K B' H0 (.ref p) (.lst ds) := by
  obtain ⟨hb, xs, hp, r⟩ := m
  exact ⟨L2.upd B p (.lst xs), Ex.new hb, fun q n e => by rw [upd_ne n]; exact e, fun W B0 H0 st w0 h0 => Stp.keep w0 st h0 hb hp, .lst (SqL.of upd_same) (r.rep.mono (Ex.new hb)), .lst upd_same h0 (r.mono (Ex.new hb))⟩
/-- another one is written, and how the heap stands behind it -/
theorem h_appRw {y : V} (h : H p = some (.lst xs)) (hz : xs.length < 1000000) (s : Stp [] B H0 B H) (w : Ex B H0) (h0 : H0 p = none) (g : ∀ H', Stp [] B H0 B H' → (∀ a, a ≠ p → H' a = H a) → Q .non H') : rAppend (.ref p) [y] H Q :=
  h_appR h hz (g _ (s.wr h0 w ⟨_, h⟩) fun a n => upd_ne n)
theorem upd_nn {o : HO} (h : (L2.upd H q o) p = none) : p ≠ q ∧ H p = none := by
  by_cases c : p = q
  · rw [c, upd_same] at h; exact nomatch h
  · rw [upd_ne c] at h; exact ⟨c, h⟩
theorem ago_q {Hc : Hp} (nf : ∀ p, Hc p = none → H0 p = none) (qf : ∀ p, Hc p = none → q ≠ p) : ∀ p, Hc p = none → (L2.upd H0 q (.lst [])) p = none := fun p h => by
  rw [upd_ne (qf p h).symm]
  exact nf p h
theorem RepNL.atE {α : Type} [Enc α] {l : List α} {x : α} {i : Int} (r : RepNL K B H xs (l.map enc)) (h : atI l i = some x) : ∃ v, atI xs i = some v ∧ RepN K B H v (enc x) := by
  refine r.at ?_
  unfold atI at h ⊢
  rw [List.length_map]
  cases e : ixN l.length i with
  | none => rw [e] at h; cases h
  | some j => rw [e] at h; show (l.map enc)[j]? = _; rw [List.getElem?_map, show l[j]? = some x from h]; rfl
theorem SqT.but {ys : List V} (h : SqT K H q xs) (hp : H p = some (.lst ys)) (k : ∀ a, a ≠ p → H' a = H a) : SqT K H' q xs := by
  have kk : ∀ {a : Addr} {u : HO}, H a = some u → (∀ zs, u ≠ .lst zs) → H' a = some u := fun {a u} e n => by
    rw [k a fun z => n ys (by rw [z, hp] at e; exact (Option.some.inj e).symm)]
    exact e
  rcases h with (h | ⟨o, h⟩) | h
  · exact .inl (.inl (kk h fun zs z => nomatch z))
  · exact .inl (.inr ⟨o, kk h fun zs z => nomatch z⟩)
  · exact .inr h
end
end Y
namespace Y
open PySem PySem.Spec PyProof.Rows
open L2
/-- an __init__ that lays what it is handed, then constants -/
def spInitC (K : PySem.W.Frag) (ns : List Str) (cs : List V) : Sp := fun vs H Q _ => ∃ (C p dx : Addr) (us : List V), vs = .ref p :: us ∧ us.length + cs.length = ns.length ∧ H p = some (.ins C dx []) ∧ Cls K C ∧ LaysOk K C ns ∧ Q .non (upd H p (.ins C dx (ns.zip (us ++ cs))))
end Y

set_option Elab.async false
set_option linter.all false
set_option maxRecDepth 100000
set_option maxHeartbeats 4000000
/-! # a comprehension whose element may raise (out of a call) -/
namespace Y
open PySem PySem.Spec PyProof.Rows
open L2
section
variable {X : Cx}
theorem ns_slots {h h' : Heap} {C : Addr} {m : Str → Option Value} (n : h.Ns C m) (k : ∀ o, h.get? C = some o → (∀ vs, o.data ≠ .fields vs) → ∃ sl, h'.get? C = some { o with slots := sl }) : h'.Ns C m := by
  obtain ⟨o, es, ep, ho, hd, r⟩ := n
  obtain ⟨sl, e⟩ := k o ho fun vs q => by rw [hd] at q; cases q
  exact ⟨_, es, ep, e, hd, r⟩
theorem traced_but {h h' B B' : Heap} {a C : Addr} {Z : Obj → Prop} {fl : Value} {m : Str → Option Value} (t : HandSPX.TracedZ h B a Z fl) (n : h.Ns C m) (sb : ∀ b, b ≠ C → h'.get? b = h.get? b) (hB : ∀ b, B.get? b = none → B'.get? b = none) : HandSPX.TracedZ h' B' a Z fl := by
  obtain ⟨oe, vs, T, oT, ts, he, hz, hd, h1, hT, ne, ho, hdT, h3⟩ := t
  obtain ⟨o, es, ep, hC, hdC, _⟩ := n
  have a1 : a ≠ C := fun e => by
    rw [e, hC] at he; cases he
    rw [hdC] at hd; cases hd
  have a2 : T ≠ C := fun e => by
    rw [e, hC] at ho; cases ho
    rw [hdC] at hdT; cases hdT
  exact ⟨oe, vs, T, oT, ts, (sb a a1).trans he, hz, hd, h1, hB T hT, ne, (sb T a2).trans ho, hdT, h3⟩
/-- out of a call in the element: the block of names is let go, the exception is in the def's own air -/
theorem noted_call {E : XK} (tk : Takes X (fun cls d _ H => E cls d H)) (hs : X.stack = X.env :: X.outer) (hf : X.env.frame = some X.env.locals) {pins pins' : List (Addr × Obj)} {σ σ9 : L2.St} {H3 H9 : Hp} {s3 s9 s' : Shared} (I3 : Inv X pins σ H3 s3)
    {scope : Scope} {ce : Env} {fp : List Addr} {xe : Value → Shared → Prop} {pn : List (Addr × Obj)} (hcf : ce.frame = X.env.frame) (hCn : s3.heap.get? ce.locals = none) (hCs : ce.locals ∉ frs X.stack)
    (hfp : ∀ b ∈ fp, (b ∈ X.ex ∨ X.s_0.heap.objs.size ≤ b) ∧ b ≠ X.env.locals ∧ (∀ x c, X.env.cells.lookup x = some c → c ≠ b) ∧ ∀ p ∈ X.pn ++ pins, p.1 ≠ b)
    (I9 : Inv ((X.blk s3 H3 scope ce fp).tr pn xe) pins' σ9 H9 s9) {u : Value} (c : L2.CX X.prog X.w X.stack H9 s9 E u s') :
    notedBy (model X.prog X.w) X.A ce (CompFails (model X.prog X.w) X.A X.xe ce) u s' := by
  obtain ⟨a, B, H', cls, d, rfl, fl, hok, ub, na, os, ag, hE⟩ := c
  have hfr : X.A.frames = some (X.env :: X.outer) := by rw [I3.ok.frames, hs]
  obtain ⟨m, hn, _⟩ := I9.loc
  have hn : s9.heap.Ns ce.locals m := hn
  have free9 : H9 ce.locals = none := I9.free
  have b9 : Un (frs X.stack) fp H3 H9 s3.heap s9.heap := I9.base
  have os9 : s9.os = s3.os := I9.os
  show wpAny _ _ (noteFrame (.ref a) ce) _ _ s'
  rw [PySem.noteFrame_env _ hcf]
  have fl1 : HandSPX.FlyingZ B (X.env :: X.outer) a (Zc cls d) s'.heap := by rw [← hs]; exact fl
  refine HandSPX.looks_onZ Zc.steady hfr hf fl1 fun h1 hh up1 => ?_
  obtain ⟨k1, k2, k3, k4⟩ := hh
  have nB : B.get? ce.locals ≠ none ∧ s'.heap.Ns ce.locals m ∧ H' ce.locals = none := by
    obtain ⟨o, es, ep, ho, hd, r⟩ := hn
    have e := ub.keep _ o ho free9 hCs
    exact ⟨by rw [e]; simp, ⟨o, es, ep, fl.1 _ o e, hd, r⟩, ub.free _ o ho free9⟩
  have hn2 : h1.Ns ce.locals m := ns_slots nB.2.1 fun o e nf => up1 _ o e nf
  refine ⟨m, hn2, fun h2 m2 hn3 sb => ?_⟩
  obtain ⟨B', eB⟩ : ∃ B', B' = PySem.W.hideAll B [ce.locals] := ⟨_, rfl⟩
  have toB : ∀ b o, b ≠ ce.locals → B.get? b = some o → B'.get? b = some o := fun b o ne e => by
    rw [eB]; exact PySem.W.hideAll_get _ e (by simpa using ne)
  have ofB : ∀ b o, B'.get? b = some o → B.get? b = some o ∧ b ≠ ce.locals := fun b o e => by
    rw [eB] at e
    refine ⟨PySem.W.of_hideAll _ e, fun z => ?_⟩
    rw [z, PySem.W.hideAll_none _ (List.mem_singleton.mpr rfl)] at e
    cases e
  have noB : ∀ b, B.get? b = none → B'.get? b = none := fun b e => by
    cases q : B'.get? b with
    | none => rfl
    | some o => rw [(ofB b o q).1] at e; cases e
  have st2 : B'.StaysIn h2 := fun b o e => by
    obtain ⟨e1, ne⟩ := ofB b o e
    exact (sb.2 b ne).trans (k1 b o e1)
  have ff2 : h2.FunFrames B' (X.env :: X.outer) := funFrames_none (Heap.FunFrames.sameBut sb hn3 k3) fun L hL => noB L (k3.mem hL).1
  have tr2 := traced_but (B' := B') k4 hn2 sb.2 noB
  obtain ⟨oe, vs, T, oT, ts, he, hz, hd, h1', r2⟩ := id tr2
  unfold PySem.passOn
  refine wpAny_bind (wpAny_field he hd h1' ?_)
  rw [if_neg (show ¬ ((Value.ref T == Value.none) = true) from by simp), hcf, hf]
  refine wpAny_bind (HandSPX.setFlight_onZ (l := X.env :: X.outer) (L := X.env.locals) ⟨st2, noB a k2, ff2, tr2⟩ fun h3 hh3 up3 => ?_)
  refine wpAny_throw ?_
  refine tk _ _ ?_
  obtain ⟨G, g1, g2⟩ := restrict h3 fun b => (B'.get? b).isSome || decide (b ∈ frs X.stack)
  have st3 : B'.StaysIn h3 := hh3.1
  have gB : ∀ b o, B'.get? b = some o → G.get? b = some o := fun b o e => by
    rw [g1 b (by simp [e])]
    exact st3 b o e
  have gF : ∀ b, b ∈ frs X.stack → G.get? b = h3.get? b := fun b hb => g1 b (by simp [hb])
  have og : ∀ b o, G.get? b = some o → h3.get? b = some o ∧ ((B'.get? b).isSome = true ∨ b ∈ frs X.stack) := fun b o e => by
    cases q : ((B'.get? b).isSome || decide (b ∈ frs X.stack)) with
    | false => rw [g2 b q] at e; cases e
    | true =>
      rw [g1 b q] at e
      exact ⟨e, by simpa [Bool.or_eq_true] using q⟩
  have ne3 : ∀ b o, s3.heap.get? b = some o → b ≠ ce.locals := fun b o e z => by rw [z, hCn] at e; cases e
  have far : ∀ b o, s9.heap.get? b = some o → b ∈ frs X.stack → (∀ vs, o.data ≠ .fields vs) → ∃ sl, G.get? b = some { o with slots := sl } := fun b o e hb nf => by
    obtain ⟨sl, e1⟩ := ub.slot b o e hb
    obtain ⟨sl1, e2⟩ := up1 b _ e1 nf
    have e3 := (sb.2 b fun z => hCs (by rw [← z]; exact hb)).trans e2
    obtain ⟨sl2, e4⟩ := up3 b _ e3 nf
    exact ⟨sl2, by rw [gF b hb]; exact e4⟩
  have nfS : ∀ b ∈ frs X.stack, ∀ o, s3.heap.get? b = some o → ∀ vs, o.data ≠ .fields vs := fun b hb o e => by
    obtain ⟨_, o', e', hd⟩ := I3.stack.mem hb
    rw [e] at e'; cases e'
    exact hd
  refine ⟨a, B', { s' with heap := G }, pins, σ, H', cls, d, rfl, ?_, fun b o e hb => ?_, Heap.UpToSlots.of_keeps fun b o e => (og b o e).1, .inr (.inr (by rw [hs]; exact hh3)), na, rfl, ag, hE⟩
  · refine I3.call' (ch := fp) (os.trans os9) ⟨fun b o e n hb hx => ?_, fun b o e n hb hx => ?_, fun b o e n hx => ?_, fun b o e hx => ?_, fun b xs e => ub.tups b xs (b9.tups b xs e), fun b o xs e => ?_, fun b ps e => ?_⟩ ?_ ag hfp
    · exact gB b o (toB b o (ne3 b o e) (ub.keep b o (b9.keep b o e n hb hx) (b9.free b o e n hx) hb))
    · obtain ⟨sl, e1⟩ := b9.slot b o e n hb hx
      obtain ⟨sl2, e3⟩ := far b _ e1 hb (nfS b hb o e)
      exact ⟨sl2, e3⟩
    · obtain ⟨o1, e1⟩ := b9.there b o e hx
      exact ub.free b o1 e1 (b9.free b o e n hx)
    · obtain ⟨o1, e1⟩ := b9.there b o e hx
      by_cases hb : b ∈ frs X.stack
      · cases hH : H3 b with
        | none =>
          obtain ⟨sl, e2⟩ := b9.slot b o e hH hb hx
          obtain ⟨sl2, e3⟩ := far b _ e2 hb (nfS b hb o e)
          exact ⟨_, e3⟩
        | some w =>
          have z := I3.stkFree b hb
          rw [hH] at z; cases z
      · obtain ⟨o2, e2⟩ := ub.there b o1 e1 hb
        exact ⟨o2, gB b o2 (toB b o2 (ne3 b o e) e2)⟩
    · exact ub.frzs b o xs (b9.frzs b o xs e)
    · obtain ⟨m1, e1⟩ := b9.tbls b ps e
      obtain ⟨m2, e2⟩ := ub.tbls b _ e1
      exact ⟨m1 ++ m2, by rw [e2, Array.append_assoc]⟩
    · refine HOk.kept (h := B') (fun b o q => (hok b o q).stay (fun c u hc r => toB c u (fun z => ?_) r) (fun _ r => r) fun _ _ r => r) gB
      rcases hc with hc | hc
      · rw [hc] at z
        rw [z, nB.2.2] at q; cases q
      · rw [z, nB.2.2] at hc; cases hc
  · obtain ⟨e1, h⟩ := og b o e
    rcases h with h | h
    · obtain ⟨o', q⟩ := Option.isSome_iff_exists.mp h
      have z := st3 b o' q
      rw [e1] at z; cases z
      exact q
    · exact absurd h hb
/-- [elt for tg in iter if ..] as a value, where a call in elt may raise -/
theorem pe_lcX {E : XK} (tk : Takes X (fun cls d _ H => E cls d H)) (hst : X.stack = X.env :: X.outer) (hfr : X.env.frame = some X.env.locals) {elt tg iter : Expr} {ifs : List Expr} {scope : Scope} {own : List (Str × Nat)} {pos : Pos} {wi : TI} {g : TG} {tt : TT} {te : TE}
    (hc : X.calm = true) (hN : X.N.Nodup) (hi : PI X tg iter wi) (ok : BlkOk X.N X.env.scope scope own)
    (hg : ∀ (s : Shared) (H : Hp) (C : Addr) (cl : List (Str × Addr)) (fp : List Addr), PG (X.blk s H scope (compEnvC scope cl C X.env) fp) tg g) (ht : ∀ (s : Shared) (H : Hp) (C : Addr) (cl : List (Str × Addr)) (fp : List Addr), PTs (X.blk s H scope (compEnvC scope cl C X.env) fp) ifs tt)
    (he : ∀ (s : Shared) (H : Hp) (C : Addr) (cl : List (Str × Addr)) (fp : List Addr) (pn : List (Addr × Obj)) (xe : Value → Shared → Prop), (∀ σ, PassesAt (L2.CX X.prog X.w) ((X.blk s H scope (compEnvC scope cl C X.env) fp).tr pn xe) σ E) → PE ((X.blk s H scope (compEnvC scope cl C X.env) fp).tr pn xe) elt te)
    (hs : ∀ x, foldedSetIterable iter X.env x = pure x := by intro _; rfl) :
    PE X (.ListComp elt [⟨tg, iter, ifs, 0⟩] scope pos) (tLc wi g tt te (own.map (·.2))) := by
  refine ⟨fun pins s σ H Q I h => ?_⟩
  rw [eval_ListComp]
  have hfree : ∀ y ∈ scope.names, y.2 = .free → ∃ c, X.env.cells.lookup y.1 = some c := fun y hy e => by
    rcases ok.free y hy e with k | k
    · exact I.ok.has _ (.inl k)
    · exact I.ok.has _ (.inr k)
  refine comprehension_at (use := none) rfl hs (closure_ok hfree) ok.kind (fun y hy e => by rw [ok.uniq y hy, e]) (thn (hi.run pins s σ H _ I h) fun xv s1 hx => thn hx fun itv s2 h2 => ?_)
  obtain ⟨it, fp, tn, J, H2, rfl, I2, T, st2, f2, q⟩ := h2
  refine wpAny_newObj_type (newEnv_comp ?_) (by show 0 ≤ sizeLine; decide)
  obtain ⟨D, hD⟩ : ∃ D, D = s2.heap.objs.size := ⟨_, rfl⟩
  obtain ⟨W, ⟨m0, w0⟩, turn⟩ := q D (I2.hok.fresh (Nat.le_of_eq hD.symm))
  obtain ⟨s3, hs3⟩ : ∃ s3 : Shared, s3 = { s2 with heap := s2.heap.push { cls := .type "list", data := .seq ([] : List Value).toArray } } := ⟨_, rfl⟩
  obtain ⟨H3, hH3⟩ : ∃ H3 : Hp, H3 = upd H2 D (.lst []) := ⟨_, rfl⟩
  have h3 : s3.heap = s2.heap.push { cls := .type "list", data := .seq ([] : List Value).toArray } := by rw [hs3]
  have I3 : Inv X pins σ H3 s3 := by
    rw [hs3, hH3]
    refine I2.laid (t' := s2.toks) (fun b o e => Heap.get?_push_of_some _ e) (Nat.le_of_eq hD.symm) ⟨Nat.zero_le _, [], 0, .nil, ?_⟩
    rw [hD]
    exact Heap.get?_push_size _ rfl
  have f3 : ∀ b ∈ fp, FpOk X pins H3 b ∧ b < s3.heap.objs.size := fun b hb => by
    obtain ⟨o, e, _⟩ := T.obj _ _ st2 b hb
    have hlt := Heap.lt_size e
    refine ⟨⟨?_, (f2 b hb).2⟩, by rw [h3, Heap.size_push]; exact Nat.lt_succ_of_lt hlt⟩
    rw [hH3, upd_ne (by rw [hD]; exact Nat.ne_of_lt hlt)]
    exact (f2 b hb).1
  have st3 : tn 0 s3.heap := T.keep _ _ _ st2 fun b _ o e => by rw [h3]; exact Heap.get?_push_of_some _ e
  have I4 := block_start I3 ok hN f3
  obtain ⟨cl, hcl⟩ : ∃ cl, cl = cellsFrom (s3.heap.objs.size + 1) scope.names (cloFrom X.env.cells scope.names []) := ⟨_, rfl⟩
  obtain ⟨ce, hce⟩ : ∃ ce, ce = compEnvC scope cl s3.heap.objs.size X.env := ⟨_, rfl⟩
  obtain ⟨s4, hs4⟩ : ∃ s4 : Shared, s4 = { s3 with heap := pushCells (s3.heap.push { cls := .type "dict", data := .dict #[] }) scope.names } := ⟨_, rfl⟩
  have pg := hg s3 H3 s3.heap.objs.size cl fp
  have pt := ht s3 H3 s3.heap.objs.size cl fp
  have pe := he s3 H3 s3.heap.objs.size cl fp
  rw [← hcl, ← hce, ← hs4] at I4
  rw [← hce] at pg pt pe
  have cL : ce.locals = s3.heap.objs.size := by rw [hce]; rfl
  have cF : ce.frame = X.env.frame := by rw [hce]; rfl
  have hCn : s3.heap.get? ce.locals = none := by
    cases e : s3.heap.get? ce.locals with
    | none => rfl
    | some o =>
      have := Heap.lt_size e
      rw [cL] at this
      exact absurd this (Nat.lt_irrefl _)
  have hCs : ce.locals ∉ frs X.stack := fun z => by
    obtain ⟨_, o, e, _⟩ := I3.stack.mem z
    rw [hCn] at e; cases e
  have fpX : ∀ b ∈ fp, (b ∈ X.ex ∨ X.s_0.heap.objs.size ≤ b) ∧ b ≠ X.env.locals ∧ (∀ x c, X.env.cells.lookup x = some c → c ≠ b) ∧ ∀ p ∈ X.pn ++ pins, p.1 ≠ b := fun b hb => ⟨(f3 b hb).1.2.2.2.1, (f3 b hb).1.2.1, (f3 b hb).1.2.2.2.2.1, (f3 b hb).1.2.2.2.2.2⟩
  suffices loop : codeAny (model X.prog X.w) X.A (.compLoop (.ListComp elt [⟨tg, iter, ifs, 0⟩] scope pos) 0 (.ref it) (.ref D) ce) (compEnds (model X.prog X.w) X.A X.xe none (fun v s' => EP X pins σ Q v s') (.ref D) ce) s4 by
    have st4 : tn 0 s4.heap := T.keep _ _ _ st3 fun b _ o e => by rw [hs4]; exact pushCells_keeps _ _ _ _ (Heap.get?_push_of_some _ e)
    have fin := codeAny_compStart_list loop (T.self X.A 0 _ _ _ st4 loop)
    rw [hD, hce, hcl, hs4, hs3] at fin
    exact fin
  have st4 : tn 0 s4.heap := T.keep _ _ _ st3 fun b _ o e => by rw [hs4]; exact pushCells_keeps _ _ _ _ (Heap.get?_push_of_some _ e)
  have stat : ∀ {σ' : L2.St} {H' : Hp} {s' : Shared}, Inv (X.blk s3 H3 scope ce fp) [] σ' H' s' → (∀ b ∈ fp, H' b = none) → ∀ b ∈ fp, FpOk (X.blk s3 H3 scope ce fp) [] H' b := fun {σ' H' s'} I' hn b hb =>
    ⟨hn b hb, (I'.ok.exf b hb).1, I'.ok.exfs b hb, .inl hb, fun x c e => (I'.ok.exf b hb).2 x c e, fun p hp => absurd (show p ∈ ([] : List (Addr × Obj)) ++ [] from hp) (by simp)⟩
  rw [← hH3] at w0
  refine compLoop_any (fun n s' => ∃ i H', Inv (X.blk s3 H3 scope ce fp) [] (wipe σ (own.map (·.2))) H' s' ∧ tn i s'.heap ∧ (∀ b ∈ fp, H' b = none) ∧ W i n H') ?_ m0 ⟨0, H3, I4, st4, fun b hb => (f3 b hb).1.1, w0⟩
  rintro n s5 ⟨i, H5, I5, st5, n5, w5⟩
  rcases turn i n H5 w5 with ⟨stop, qq⟩ | ⟨go, Nx, hNx, step⟩
  · refine thnF (T.done (X.blk s3 H3 scope ce fp) rfl rfl rfl hc i [] s5 _ H5 (fun _ _ => False) I5 (stat I5 n5) st5 stop) fun r s6 ⟨hr, I6⟩ => ?_
    subst hr
    have I7 : Inv X pins σ H5 s6 := I3.call' (ch := fp) I6.os I6.base I6.hok I6.bare fpX
    obtain ⟨m, hn, _⟩ := I6.loc
    have nC : H5 ce.locals = none := I6.free
    have hn : s6.heap.Ns ce.locals m := hn
    obtain ⟨f0, f1, f2, f3, f4, f5⟩ := (I3.fpOk (H' := H5) (b := ce.locals) (Nat.le_of_eq cL.symm) nC : FpOk X pins H5 ce.locals)
    exact ⟨m, hn, fun h'' sb => ⟨.ref D, H5, I7.turned (t' := s6.toks) (fun b o hb e => (sb.2 b hb).trans e) f0 f1 f3 f4 f5, rfl, qq⟩⟩
  · refine thnF (T.item (X.blk s3 H3 scope ce fp) rfl rfl rfl hc i [] s5 _ H5 (fun _ _ => False) I5 (stat I5 n5) st5 go) fun r s6 ⟨u, hr, h6⟩ => ?_
    subst hr
    refine thnF h6 fun _ s7 ⟨x, H7, I7, r7, y7, st7, n7⟩ => ?_
    have I7' := I7.pinned (stat I7 n7) (T.obj _ _ st7)
    refine thnF (pg.run _ s7 _ H7 x u _ I7' r7 (step x H7 y7)) fun _ s8 ⟨σ8, H8, I8, hw8, q8⟩ => ?_
    refine thnF (pt.run _ s8 σ8 H8 _ I8 q8) fun b s9 ⟨H9, I9, q9⟩ => ?_
    have back : ∀ {s' : Shared} {H' : Hp}, Inv (X.blk s3 H3 scope ce fp) ([] ++ pinsAt fp s7.heap) σ8 H' s' → Nx H' → ∃ m, m < n ∧ ∃ i H', Inv (X.blk s3 H3 scope ce fp) [] (wipe σ (own.map (·.2))) H' s' ∧ tn i s'.heap ∧ (∀ b ∈ fp, H' b = none) ∧ W i m H' := fun {s' H'} I' nx => by
      obtain ⟨m', hm, w'⟩ := hNx H' nx
      have pin' : ∀ b ∈ fp, ∀ o, s7.heap.get? b = some o → s'.heap.get? b = some o ∧ H' b = none := fun b hb o e =>
        let z := I'.pin (b, o) (List.mem_append_right _ (List.mem_append_right _ (mem_pinsAt hb e)))
        ⟨z.1, z.2.1⟩
      refine ⟨m', hm, i + 1, H', (I'.unpinned (pins := [])).weak (by rw [← hw8, wipe_length]) (fun j v e => ?_), T.keep _ _ _ st7 fun b hb o e => (pin' b hb o e).1, fun b hb => ?_, w'⟩
      · rw [← hw8] at e
        exact (wipe_some e).1
      · obtain ⟨o, e, _⟩ := T.obj _ _ st7 b hb
        exact (pin' b hb o e).2
    cases b with
    | false =>
      simp only [Bool.false_eq_true, if_false] at q9 ⊢
      exact back I9 q9
    | true =>
      simp only [if_true] at q9 ⊢
      have okB := I9.ok
      have pe' := pe ((X.blk s3 H3 scope ce fp).pn ++ ([] ++ pinsAt fp s7.heap)) (notedBy (model X.prog X.w) X.A ce fun e s' => compEnds (model X.prog X.w) X.A X.xe none (fun v s' => EP X pins σ Q v s') (.ref D) ce (.error e) s')
        fun σ' pins' H' s' e s'' I' c' => noted_call tk hst hfr I3 cF hCn hCs fpX I' c'
      refine wpAny_mono (pe'.run [] s9 σ8 H9 _ (I9.toTry _) q9) ?_ fun _ _ z => z
      rintro z s10 ⟨yv, H10, I10, r10, acc, hD10, hz10, nx⟩
      exact app_ok (X := X.blk s3 H3 scope ce fp) (I10.ofTry okB) hD10 hz10 r10 fun s11 I11 => back I11 nx
end
end Y

set_option Elab.async false
set_option linter.all false
set_option maxRecDepth 100000
set_option maxHeartbeats 4000000
namespace A
open PySem PySem.Spec PyProof.Rows L2 Y
open Y.Enc (enc)
abbrev top (i : Nat) : Stmt := PySem.Challenge.pw_lanescroll_k41_heads_and_their_bodies.main.body.getD i (.Pass ⟨0, 0, 0, 0⟩)
def isWhole (d : D) (lo hi : Int) : Bool := match d with
  | .int i => decide (lo ≤ i) && decide (i ≤ hi)
  | _ => false
def m_is_whole (d : D) (lo hi : Int) : Res Bool := .ok (isWhole d lo hi)
/-! ### divisor -/
def m_divisor (a_one : Int) (a_other : Int) : Res Int :=
  lt ((absI a_one) : Int) fun x1 => lt ((absI a_other) : Int) fun x2 => (whileR (x2.natAbs + 1) ((x1, x2) : Int × Int) (fun (a12 : Int × Int) => (if (decide (0 < a12.2)) = true then guardR (0 < a12.2) <| lt ((a12.1 % a12.2) : Int) fun x16 => .ok (.nx (a12.2, x16)) else .ok (.bk (a12.1, a12.2))))).bind (afterR fun a17 => .ok a17.1)
def sp_divisor (K : PySem.W.Frag) : Sp := fun vs H Q _ => ∃ (B : Hp) (a_one : Int) (a_other : Int), Ex B H ∧ vs = [.int a_one, .int a_other] ∧ Post (m_divisor a_one a_other) (fun r => Ret K [] B H (enc r) Q) (fun _ => False)
abbrev s_divisor : Stmt := top 8
theorem sc_divisor : FnScope ["one", "other"] ["one", "other"] (defScope s_divisor) := ⟨rfl, rfl, rfl, by decide +kernel, rfl, by decide +kernel, by decide +kernel⟩
/-! ### is_number -/
def m_is_number (a_thing : D) : Res Bool :=
  (if (isA "int" a_thing) = true then .ok (!(isA "bool" a_thing)) else .ok false)
def sp_is_number (K : PySem.W.Frag) : Sp := fun vs H Q _ => ∃ (B : Hp) (v_thing : V) (a_thing : D), Ex B H ∧ vs = [v_thing] ∧ Rep K B v_thing (enc a_thing) ∧ Post (m_is_number a_thing) (fun r => Ret K [] B H (enc r) Q) (fun _ => False)
abbrev s_is_number : Stmt := top 9
theorem sc_is_number : FnScope ["thing"] ["thing"] (defScope s_is_number) := ⟨rfl, rfl, rfl, by decide +kernel, rfl, by decide +kernel, by decide +kernel⟩
/-! ### is_fraction -/
def m_is_fraction (a_thing : D) : Res Bool :=
  (if (isA "tuple" a_thing) = true then (asT a_thing).bind fun l1 => (if (!decide ((l1.length : Int) = 2)) = true then .ok false else (asT a_thing).bind fun l8 => guardR (l8.length = 2) <| (ixR l8 0).bind fun x16 => (ixR l8 1).bind fun x20 => (m_is_number x16).bind fun x24 => (if x24 = true then (m_is_number x20).bind fun x30 => (if x30 = true then (asI x20).bind fun i36 => (if (decide (i36 < 1)) = true then .ok false else (asI x16).bind fun i39 => (m_divisor i39 i36).bind fun x42 => .ok (decide (x42 = 1))) else .ok false) else .ok false)) else .ok false)
def sp_is_fraction (K : PySem.W.Frag) : Sp := fun vs H Q _ => ∃ (B : Hp) (v_thing : V) (a_thing : D), Ex B H ∧ vs = [v_thing] ∧ Rep K B v_thing (enc a_thing) ∧ Post (m_is_fraction a_thing) (fun r => Ret K [] B H (enc r) Q) (fun _ => False)
abbrev s_is_fraction : Stmt := top 10
theorem sc_is_fraction : FnScope ["thing", "top", "bottom"] ["thing"] (defScope s_is_fraction) := ⟨rfl, rfl, rfl, by decide +kernel, rfl, by decide +kernel, by decide +kernel⟩
/-! ### is_moment -/
def m_is_moment (a_thing : D) : Res Bool :=
  (m_is_fraction a_thing).bind fun x1 => (if x1 = true then (asT a_thing).bind fun l7 => (ixR l7 0).bind fun x14 => (asI x14).bind fun i18 => .ok (decide (0 ≤ i18)) else .ok false)
def sp_is_moment (K : PySem.W.Frag) : Sp := fun vs H Q _ => ∃ (B : Hp) (v_thing : V) (a_thing : D), Ex B H ∧ vs = [v_thing] ∧ Rep K B v_thing (enc a_thing) ∧ Post (m_is_moment a_thing) (fun r => Ret K [] B H (enc r) Q) (fun _ => False)
abbrev s_is_moment : Stmt := top 11
theorem sc_is_moment : FnScope ["thing"] ["thing"] (defScope s_is_moment) := ⟨rfl, rfl, rfl, by decide +kernel, rfl, by decide +kernel, by decide +kernel⟩
/-! ### less -/
def m_less (a_one : (Tp2 Int Int)) (a_other : (Tp2 Int Int)) : Res Bool :=
  guardR (CMulW a_one.a a_other.b) <| guardR (CMulW a_other.a a_one.b) <| .ok (decide ((a_one.a * a_other.b) < (a_other.a * a_one.b)))
def sp_less (K : PySem.W.Frag) : Sp := fun vs H Q _ => ∃ (B : Hp) (v_one : V) (a_one : (Tp2 Int Int)) (v_other : V) (a_other : (Tp2 Int Int)), Ex B H ∧ vs = [v_one, v_other] ∧ Rep K B v_one (enc a_one) ∧ Rep K B v_other (enc a_other) ∧ Post (m_less a_one a_other) (fun r => Ret K [] B H (enc r) Q) (fun _ => False)
abbrev s_less : Stmt := top 12
theorem sc_less : FnScope ["one", "other"] ["one", "other"] (defScope s_less) := ⟨rfl, rfl, rfl, by decide +kernel, rfl, by decide +kernel, by decide +kernel⟩
/-! ### is_edit -/
def m_is_edit (a_thing : D) : Res Bool :=
  (if (isA "tuple" a_thing) = true then (asT a_thing).bind fun l1 => (if (!decide ((l1.length : Int) = 3)) = true then .ok false else (asT a_thing).bind fun l8 => guardR (l8.length = 3) <| (ixR l8 0).bind fun x16 => (ixR l8 1).bind fun x20 => (ixR l8 2).bind fun x24 => (m_is_fraction x16).bind fun x28 => (if x28 = true then (asD (Tp2 Int Int) x16).bind fun x35 => (m_less (⟨0, 1⟩ : (Tp2 Int Int)) x35).bind fun x38 => (if x38 = true then (m_is_moment x24).bind fun x44 => (if x44 = true then (if (isNonD x20) = true then guardR (okEq x24 (enc (⟨0, 1⟩ : (Tp2 Int Int)))) <| .ok (eqD x24 (enc (⟨0, 1⟩ : (Tp2 Int Int)))) else (m_is_moment x20).bind fun x51 => .ok x51) else .ok false) else .ok false) else .ok false)) else .ok false)
def sp_is_edit (K : PySem.W.Frag) : Sp := fun vs H Q _ => ∃ (B : Hp) (v_thing : V) (a_thing : D), Ex B H ∧ vs = [v_thing] ∧ Rep K B v_thing (enc a_thing) ∧ Post (m_is_edit a_thing) (fun r => Ret K [] B H (enc r) Q) (fun _ => False)
abbrev s_is_edit : Stmt := top 14
theorem sc_is_edit : FnScope ["thing", "span", "start", "rate"] ["thing"] (defScope s_is_edit) := ⟨rfl, rfl, rfl, by decide +kernel, rfl, by decide +kernel, by decide +kernel⟩
/-! ### is_edits -/
def m_is_edits (a_thing : D) : Res Bool :=
  (if (isA "list" a_thing) = true then (asL a_thing).bind fun l1 => (compR (l1) (() : Unit) (fun x11 (a15 : Unit) => (m_is_edit x11).bind fun x27 => .ok (some x27, ()))).bind <| un2 fun acc14 a15 => .ok (acc14.all id) else .ok false)
def sp_is_edits (K : PySem.W.Frag) : Sp := fun vs H Q _ => ∃ (B : Hp) (v_thing : V) (a_thing : D), Ex B H ∧ vs = [v_thing] ∧ Rep K B v_thing (enc a_thing) ∧ Post (m_is_edits a_thing) (fun r => Ret K [] B H (enc r) Q) (fun _ => False)
abbrev s_is_edits : Stmt := top 15
theorem sc_is_edits : FnScope ["thing", "edit"] ["thing"] (defScope s_is_edits) := ⟨rfl, rfl, rfl, by decide +kernel, rfl, by decide +kernel, by decide +kernel⟩
/-! ### is_whole -/
def sp_is_whole (K : PySem.W.Frag) : Sp := fun vs H Q _ => ∃ (B : Hp) (v_thing : V) (a_thing : D) (a_low : Int) (a_high : Int), Ex B H ∧ vs = [v_thing, .int a_low, .int a_high] ∧ Rep K B v_thing (enc a_thing) ∧ Post (m_is_whole a_thing a_low a_high) (fun r => Ret K [] B H (enc r) Q) (fun _ => False)
abbrev s_is_whole : Stmt := top 17
theorem sc_is_whole : FnScope ["thing", "low", "high"] ["thing", "low", "high"] (defScope s_is_whole) := ⟨rfl, rfl, rfl, by decide +kernel, rfl, by decide +kernel, by decide +kernel⟩
/-! ### is_bytes -/
def m_is_bytes (a_thing : D) : Res Bool :=
  (if (isA "list" a_thing) = true then (asL a_thing).bind fun l1 => (compR (l1) (() : Unit) (fun x11 (a15 : Unit) => (m_is_whole x11 0 255).bind fun x27 => .ok (some x27, ()))).bind <| un2 fun acc14 a15 => .ok (acc14.all id) else .ok false)
def sp_is_bytes (K : PySem.W.Frag) : Sp := fun vs H Q _ => ∃ (B : Hp) (v_thing : V) (a_thing : D), Ex B H ∧ vs = [v_thing] ∧ Rep K B v_thing (enc a_thing) ∧ Post (m_is_bytes a_thing) (fun r => Ret K [] B H (enc r) Q) (fun _ => False)
abbrev s_is_bytes : Stmt := top 18
theorem sc_is_bytes : FnScope ["thing", "byte"] ["thing"] (defScope s_is_bytes) := ⟨rfl, rfl, rfl, by decide +kernel, rfl, by decide +kernel, by decide +kernel⟩
/-! ### is_small -/
def m_is_small (a_edit : (Tp3 (Tp2 Int Int) (Option (Tp2 Int Int)) (Tp2 Int Int))) : Res Bool :=
  (if (isNonD (enc a_edit.b)) = true then (asIs (enc a_edit.a)).bind fun l11 => .ok (decide ((maxL 0 l11) ≤ 1000000000000000000000000000000)) else (asT (enc a_edit.a)).bind fun l15 => (asT (enc a_edit.b)).bind fun l22 => guardR (l15.length + l22.length ≤ 1000000) <| (asT (.tup ((l15 ++ l22).map enc) : D)).bind fun l34 => (asT (enc a_edit.c)).bind fun l41 => guardR (l34.length + l41.length ≤ 1000000) <| (asIs (.tup ((l34 ++ l41).map enc) : D)).bind fun l53 => .ok (decide ((maxL 0 l53) ≤ 1000000000000000000000000000000)))
def sp_is_small (K : PySem.W.Frag) : Sp := fun vs H Q _ => ∃ (B : Hp) (v_edit : V) (a_edit : (Tp3 (Tp2 Int Int) (Option (Tp2 Int Int)) (Tp2 Int Int))), Ex B H ∧ vs = [v_edit] ∧ Rep K B v_edit (enc a_edit) ∧ Post (m_is_small a_edit) (fun r => Ret K [] B H (enc r) Q) (fun _ => False)
abbrev s_is_small : Stmt := top 20
theorem sc_is_small : FnScope ["edit", "span", "start", "rate"] ["edit"] (defScope s_is_small) := ⟨rfl, rfl, rfl, by decide +kernel, rfl, by decide +kernel, by decide +kernel⟩
/-! ### are_lane_edits -/
def m_are_lane_edits (a_thing : D) : Res Bool :=
  (if (isA "list" a_thing) = true then (asL a_thing).bind fun l1 => (if (decide (60 < (l1.length : Int))) = true then .ok false else (m_is_edits a_thing).bind fun x8 => (if x8 = true then (asL a_thing).bind fun l14 => (compR (l14) (() : Unit) (fun x24 (a28 : Unit) => (asD (Tp3 (Tp2 Int Int) (Option (Tp2 Int Int)) (Tp2 Int Int)) x24).bind fun x40 => (m_is_small x40).bind fun x43 => .ok (some x43, ()))).bind <| un2 fun acc27 a28 => .ok (acc27.all id) else .ok false)) else .ok false)
def sp_are_lane_edits (K : PySem.W.Frag) : Sp := fun vs H Q _ => ∃ (B : Hp) (v_thing : V) (a_thing : D), Ex B H ∧ vs = [v_thing] ∧ Rep K B v_thing (enc a_thing) ∧ Post (m_are_lane_edits a_thing) (fun r => Ret K [] B H (enc r) Q) (fun _ => False)
abbrev s_are_lane_edits : Stmt := top 21
theorem sc_are_lane_edits : FnScope ["thing", "edit"] ["thing"] (defScope s_are_lane_edits) := ⟨rfl, rfl, rfl, by decide +kernel, rfl, by decide +kernel, by decide +kernel⟩
/-! ### written -/
def m_written (a_number : Int) : Res (List Int) :=
  ((m_is_whole (enc (a_number : Int)) 0 1000000000000000000000000000000000000000000000000000000000000).noErr).bind fun x1 => (if x1 = true then lt ((a_number / 128) : Int) fun x13 => (whileR (x13.natAbs + 1) ((x13, ([(a_number % 128)] : List Int)) : Int × (List Int)) (fun (a23 : Int × (List Int)) => (if (decide (0 < a23.1)) = true then guardR (a23.2.length < 1000000) <| lt ((a23.1 / 128) : Int) fun x29 => .ok (.nx (x29, (a23.2 ++ [(128 + (a23.1 % 128))]))) else .ok (.bk (a23.1, a23.2))))).bind (afterR fun a30 => .ok (a30.2.reverse)) else .err ⟨"NoNumber", []⟩)
def sp_written (K : PySem.W.Frag) (mg : Str → Option Value) : Sp := fun vs H Q E => ∃ (B : Hp) (a_number : Int), Ex B H ∧ vs = [.int a_number] ∧ Post (m_written a_number) (fun r => RetF K [] B H (r.map enc) Q) (fun e => Rai mg [] B H e E)
abbrev s_written : Stmt := top 24
theorem sc_written : FnScope ["number", "found"] ["number"] (defScope s_written) := ⟨rfl, rfl, rfl, by decide +kernel, rfl, by decide +kernel, by decide +kernel⟩
/-! ### number_at -/
def m_number_at (a_row : (List Int)) (a_at : Int) : Res (Option (Tp2 Int Int)) :=
  guardR (okEq (enc (cutL a_row (some a_at) (some (a_at + 1)))) (enc ([128] : List Int))) <| (if (eqD (enc (cutL a_row (some a_at) (some (a_at + 1)))) (enc ([128] : List Int))) = true then .ok none else (whileR (a_row.length + 1) ((0, a_at) : Int × Int) (fun (a24 : Int × Int) => (if (decide (a24.2 < (a_row.length : Int))) = true then (ixR a_row a24.2).bind fun x36 => lt (((a24.1 * 128) + (x36 % 128)) : Int) fun x40 => lt ((a24.2 + 1) : Int) fun x41 => (if (decide (1000000000000000000000000000000000000000000000000000000000000 < x40)) = true then .ok (.rt none) else (ixR a_row (x41 - 1)).bind fun x46 => (if (decide (x46 < 128)) = true then .ok (.rt (some (⟨x40, x41⟩ : (Tp2 Int Int)))) else .ok (.nx (x40, x41)))) else .ok (.bk (a24.1, a24.2))))).bind (afterR fun a55 => .ok none))
def sp_number_at (K : PySem.W.Frag) : Sp := fun vs H Q _ => ∃ (B : Hp) (v_row : V) (a_row : (List Int)) (a_at : Int), Ex B H ∧ vs = [v_row, .int a_at] ∧ Rep K B v_row (enc a_row) ∧ Post (m_number_at a_row a_at) (fun r => Ret K [] B H (enc r) Q) (fun _ => False)
abbrev s_number_at : Stmt := top 25
theorem sc_number_at : FnScope ["row", "at", "number"] ["row", "at"] (defScope s_number_at) := ⟨rfl, rfl, rfl, by decide +kernel, rfl, by decide +kernel, by decide +kernel⟩
/-! ### all_written -/
def m_all_written (a_numbers : (List Int)) : Res (List Int) :=
  (forR (a_numbers) (([] : List Int) : (List Int)) (fun x19 (a18 : (List Int)) => ((m_written x19).noErr).bind fun x26 => guardR (a18.length + x26.length ≤ 1000000) <| .ok (.nx (a18 ++ x26)))).bind (afterR fun a41 => .ok a41)
def sp_all_written (K : PySem.W.Frag) : Sp := fun vs H Q _ => ∃ (B : Hp) (v_numbers : V) (a_numbers : (List Int)), Ex B H ∧ vs = [v_numbers] ∧ Bor K B H [] v_numbers (a_numbers.map enc) ∧ Post (m_all_written a_numbers) (fun r => RetF K [] B H (r.map enc) Q) (fun _ => False)
abbrev s_all_written : Stmt := top 30
theorem sc_all_written : FnScope ["numbers", "found", "number"] ["numbers"] (defScope s_all_written) := ⟨rfl, rfl, rfl, by decide +kernel, rfl, by decide +kernel, by decide +kernel⟩
/-! ### edit_numbers -/
def m_edit_numbers (a_edit : D) : Res (List Int) :=
  (asT a_edit).bind fun l1 => guardR (l1.length = 3) <| (ixR l1 0).bind fun x9 => (ixR l1 1).bind fun x13 => (ixR l1 2).bind fun x17 => (if (isNonD x13) = true then (asIs x9).bind fun l21 => guardR (l21.length + ([0] : List Int).length ≤ 1000000) <| .ok (l21 ++ ([0] : List Int)) else (asIs x9).bind fun l53 => guardR (l53.length + ([1] : List Int).length ≤ 1000000) <| (asIs x13).bind fun l84 => guardR ((l53 ++ ([1] : List Int)).length + l84.length ≤ 1000000) <| (asIs x17).bind fun l110 => guardR (((l53 ++ ([1] : List Int)) ++ l84).length + l110.length ≤ 1000000) <| .ok (((l53 ++ ([1] : List Int)) ++ l84) ++ l110))
def sp_edit_numbers (K : PySem.W.Frag) : Sp := fun vs H Q _ => ∃ (B : Hp) (v_edit : V) (a_edit : D), Ex B H ∧ vs = [v_edit] ∧ Rep K B v_edit (enc a_edit) ∧ Post (m_edit_numbers a_edit) (fun r => RetF K [] B H (r.map enc) Q) (fun _ => False)
abbrev s_edit_numbers : Stmt := top 31
theorem sc_edit_numbers : FnScope ["edit", "span", "start", "rate"] ["edit"] (defScope s_edit_numbers) := ⟨rfl, rfl, rfl, by decide +kernel, rfl, by decide +kernel, by decide +kernel⟩
/-! ### is_head_lane -/
def m_is_head_lane (a_thing : D) : Res Bool :=
  (if (isA "tuple" a_thing) = true then (asT a_thing).bind fun l1 => (if (!decide ((l1.length : Int) = 3)) = true then .ok false else (asT a_thing).bind fun l8 => (ixR l8 0).bind fun x15 => (m_is_whole x15 1 1000000).bind fun x19 => (if x19 = true then (asT a_thing).bind fun l25 => (ixR l25 1).bind fun x32 => (m_is_whole x32 0 200).bind fun x36 => (if x36 = true then (asT a_thing).bind fun l42 => (ixR l42 2).bind fun x49 => (m_are_lane_edits x49).bind fun x53 => .ok x53 else .ok false) else .ok false)) else .ok false)
def sp_is_head_lane (K : PySem.W.Frag) : Sp := fun vs H Q _ => ∃ (B : Hp) (v_thing : V) (a_thing : D), Ex B H ∧ vs = [v_thing] ∧ Rep K B v_thing (enc a_thing) ∧ Post (m_is_head_lane a_thing) (fun r => Ret K [] B H (enc r) Q) (fun _ => False)
abbrev s_is_head_lane : Stmt := top 32
theorem sc_is_head_lane : FnScope ["thing"] ["thing"] (defScope s_is_head_lane) := ⟨rfl, rfl, rfl, by decide +kernel, rfl, by decide +kernel, by decide +kernel⟩
/-! ### is_head -/
def m_is_head (a_thing : D) : Res Bool :=
  (if (isA "tuple" a_thing) = true then (asT a_thing).bind fun l1 => (if (!decide ((l1.length : Int) = 3)) = true then .ok false else (asT a_thing).bind fun l8 => (ixR l8 0).bind fun x15 => (m_is_whole x15 0 1000000000).bind fun x19 => (if x19 = true then (asT a_thing).bind fun l25 => (ixR l25 1).bind fun x32 => (m_is_whole x32 1 16).bind fun x36 => (if x36 = true then (asT a_thing).bind fun l42 => (ixR l42 2).bind fun x49 => (if (isA "list" x49) = true then (asT a_thing).bind fun l53 => (ixR l53 2).bind fun x60 => (asL x60).bind fun l64 => (if (decide (1 ≤ (l64.length : Int))) = true then (if (decide ((l64.length : Int) ≤ 8)) = true then (asT a_thing).bind fun l71 => (ixR l71 2).bind fun x78 => (asL x78).bind fun l82 => (compR (l82) (() : Unit) (fun x92 (a96 : Unit) => (m_is_head_lane x92).bind fun x108 => .ok (some x108, ()))).bind <| un2 fun acc95 a96 => .ok (acc95.all id) else .ok false) else .ok false) else .ok false) else .ok false) else .ok false)) else .ok false)
def sp_is_head (K : PySem.W.Frag) : Sp := fun vs H Q _ => ∃ (B : Hp) (v_thing : V) (a_thing : D), Ex B H ∧ vs = [v_thing] ∧ Rep K B v_thing (enc a_thing) ∧ Post (m_is_head a_thing) (fun r => Ret K [] B H (enc r) Q) (fun _ => False)
abbrev s_is_head : Stmt := top 33
theorem sc_is_head : FnScope ["thing", "lane"] ["thing"] (defScope s_is_head) := ⟨rfl, rfl, rfl, by decide +kernel, rfl, by decide +kernel, by decide +kernel⟩
/-! ### head_body -/
def m_head_body (a_head : D) : Res (List Int) :=
  ((m_is_head a_head).noErr).bind fun x1 => (if x1 = true then (asT a_head).bind fun l7 => guardR (l7.length = 3) <| (ixR l7 0).bind fun x15 => (ixR l7 1).bind fun x19 => (ixR l7 2).bind fun x23 => (asL x23).bind fun l27 => (asI x15).bind fun i34 => (asI x19).bind fun i37 => (asL x23).bind fun l46 => (forR (l46) (([i34, i37, (l27.length : Int)] : List Int) : (List Int)) (fun x61 (a60 : (List Int)) => (asT x61).bind fun l71 => guardR (l71.length = 3) <| (ixR l71 0).bind fun x79 => (ixR l71 1).bind fun x83 => (ixR l71 2).bind fun x87 => (asL x87).bind fun l91 => (asI x79).bind fun i98 => (asI x83).bind fun i101 => guardR (a60.length + ([i98, i101, (l91.length : Int)] : List Int).length ≤ 1000000) <| (asL x87).bind fun l114 => (forR (l114) ((a60 ++ ([i98, i101, (l91.length : Int)] : List Int)) : (List Int)) (fun x129 (a128 : (List Int)) => ((m_edit_numbers x129).noErr).bind fun x136 => guardR (a128.length + x136.length ≤ 1000000) <| .ok (.nx (a128 ++ x136)))).bind (afterR fun a152 => .ok (.nx a152)))).bind (afterR fun a157 => ((m_all_written a157).noErr).bind fun x165 => .ok x165) else .err ⟨"NoBody", []⟩)
def sp_head_body (K : PySem.W.Frag) (mg : Str → Option Value) : Sp := fun vs H Q E => ∃ (B : Hp) (v_head : V) (a_head : D), Ex B H ∧ vs = [v_head] ∧ Rep K B v_head (enc a_head) ∧ Post (m_head_body a_head) (fun r => RetF K [] B H (r.map enc) Q) (fun e => Rai mg [] B H e E)
abbrev s_head_body : Stmt := top 34
theorem sc_head_body : FnScope ["head", "seal", "wide", "lanes", "numbers", "units", "count", "edits", "edit"] ["head"] (defScope s_head_body) := ⟨rfl, rfl, rfl, by decide +kernel, rfl, by decide +kernel, by decide +kernel⟩
/-! ### Numbers__number -/
def m_Numbers__number (a_self : (List D)) (a_low : Int) (a_high : Int) : Res (Int × (List D)) :=
  (nthR a_self 0).bind fun x1 => (asD (List Int) x1).bind fun x5 => (nthR a_self 1).bind fun x8 => (asI x8).bind fun i12 => ((m_number_at x5 i12).noErr).bind fun x15 => (if (isNonD (enc x15)) = true then .err ⟨"NoBody", []⟩ else (someR x15).bind fun x21 => (if (decide (a_low ≤ x21.a)) = true then (if (decide (x21.a ≤ a_high)) = true then (someR x15).bind fun x30 => (someR x15).bind fun x41 => .ok (x41.a, (List.set a_self 1 (enc (x30.b : Int)))) else .err ⟨"NoBody", []⟩) else .err ⟨"NoBody", []⟩))
def sp_Numbers__number (K : PySem.W.Frag) (mg : Str → Option Value) (C_Numbers : Addr) : Sp := fun vs H Q E => ∃ (B : Hp) (p_self : Addr) (a_self : (List D)) (a_low : Int) (a_high : Int), Ex B H ∧ vs = [.ref p_self, .int a_low, .int a_high] ∧ MuN K C_Numbers ["row", "at"] B H p_self a_self ∧ Post (m_Numbers__number a_self a_low a_high) (fun r => RetMI K C_Numbers ["row", "at"] p_self B H (enc r.1) r.2 Q) (fun e => Rai mg [p_self] B H e E)
abbrev s_Numbers__number : Stmt := inClass (top 35) 1
theorem sc_Numbers__number : FnScope ["self", "low", "high", "found"] ["self", "low", "high"] (defScope s_Numbers__number) := ⟨rfl, rfl, rfl, by decide +kernel, rfl, by decide +kernel, by decide +kernel⟩
/-! ### Numbers__pair -/
def m_Numbers__pair (a_self : (List D)) : Res ((Tp2 Int Int) × (List D)) :=
  (m_Numbers__number a_self 0 1000000000000000000000000000000000000000000000000000000000000).bind fun x1 => (m_Numbers__number x1.2 0 1000000000000000000000000000000000000000000000000000000000000).bind fun x8 => .ok ((⟨x1.1, x8.1⟩ : (Tp2 Int Int)), x8.2)
def sp_Numbers__pair (K : PySem.W.Frag) (mg : Str → Option Value) (C_Numbers : Addr) : Sp := fun vs H Q E => ∃ (B : Hp) (p_self : Addr) (a_self : (List D)), Ex B H ∧ vs = [.ref p_self] ∧ MuN K C_Numbers ["row", "at"] B H p_self a_self ∧ Post (m_Numbers__pair a_self) (fun r => RetMI K C_Numbers ["row", "at"] p_self B H (enc r.1) r.2 Q) (fun e => Rai mg [p_self] B H e E)
abbrev s_Numbers__pair : Stmt := inClass (top 35) 2
theorem sc_Numbers__pair : FnScope ["self", "top"] ["self"] (defScope s_Numbers__pair) := ⟨rfl, rfl, rfl, by decide +kernel, rfl, by decide +kernel, by decide +kernel⟩
/-! ### edit_in -/
def m_edit_in (a_numbers : (List D)) : Res ((Tp3 (Tp2 Int Int) (Option (Tp2 Int Int)) (Tp2 Int Int)) × (List D)) :=
  (m_Numbers__pair a_numbers).bind fun x1 => (m_Numbers__number x1.2 0 1).bind fun x8 => (if (decide (x8.1 = 0)) = true then .ok ((⟨(⟨x1.1, (), (⟨0, 1⟩ : (Tp2 Int Int))⟩ : (Tp3 (Tp2 Int Int) Unit (Tp2 Int Int))).a, none, (⟨x1.1, (), (⟨0, 1⟩ : (Tp2 Int Int))⟩ : (Tp3 (Tp2 Int Int) Unit (Tp2 Int Int))).c⟩ : (Tp3 (Tp2 Int Int) (Option (Tp2 Int Int)) (Tp2 Int Int))), x8.2) else (m_Numbers__pair x8.2).bind fun x21 => (m_Numbers__pair x21.2).bind fun x28 => .ok ((⟨(⟨x1.1, x21.1, x28.1⟩ : (Tp3 (Tp2 Int Int) (Tp2 Int Int) (Tp2 Int Int))).a, (some ((⟨x1.1, x21.1, x28.1⟩ : (Tp3 (Tp2 Int Int) (Tp2 Int Int) (Tp2 Int Int))).b)), (⟨x1.1, x21.1, x28.1⟩ : (Tp3 (Tp2 Int Int) (Tp2 Int Int) (Tp2 Int Int))).c⟩ : (Tp3 (Tp2 Int Int) (Option (Tp2 Int Int)) (Tp2 Int Int))), x28.2))
def sp_edit_in (K : PySem.W.Frag) (mg : Str → Option Value) (C_Numbers : Addr) : Sp := fun vs H Q E => ∃ (B : Hp) (p_numbers : Addr) (a_numbers : (List D)), Ex B H ∧ vs = [.ref p_numbers] ∧ MuN K C_Numbers ["row", "at"] B H p_numbers a_numbers ∧ Post (m_edit_in a_numbers) (fun r => RetMI K C_Numbers ["row", "at"] p_numbers B H (enc r.1) r.2 Q) (fun e => Rai mg [p_numbers] B H e E)
abbrev s_edit_in : Stmt := top 36
theorem sc_edit_in : FnScope ["numbers", "span", "start"] ["numbers"] (defScope s_edit_in) := ⟨rfl, rfl, rfl, by decide +kernel, rfl, by decide +kernel, by decide +kernel⟩
/-! ### lane_in -/
def m_lane_in (a_numbers : (List D)) : Res ((Tp3 Int Int (List (Tp3 (Tp2 Int Int) (Option (Tp2 Int Int)) (Tp2 Int Int)))) × (List D)) :=
  (m_Numbers__number a_numbers 1 1000000).bind fun x1 => (m_Numbers__number x1.2 0 200).bind fun x8 => (m_Numbers__number x8.2 0 60).bind fun x15 => guardR (-(2 ^ 62) ≤ (x15.1 : Int)) <| (compR (rngI 0 x15.1) (x15.2 : (List D)) (fun x26 (a30 : (List D)) => (m_edit_in a30).bind fun x43 => .ok (some x43.1, x43.2))).bind <| un2 fun acc29 a30 => guardR (noLs (acc29.map enc) = true) <| .ok ((⟨x1.1, x8.1, acc29⟩ : (Tp3 Int Int (List (Tp3 (Tp2 Int Int) (Option (Tp2 Int Int)) (Tp2 Int Int))))), a30)
def sp_lane_in (K : PySem.W.Frag) (mg : Str → Option Value) (C_Numbers : Addr) : Sp := fun vs H Q E => ∃ (B : Hp) (p_numbers : Addr) (a_numbers : (List D)), Ex B H ∧ vs = [.ref p_numbers] ∧ MuN K C_Numbers ["row", "at"] B H p_numbers a_numbers ∧ Post (m_lane_in a_numbers) (fun r => RetNI K C_Numbers ["row", "at"] p_numbers B H (enc r.1) r.2 Q) (fun e => Rai mg [p_numbers] B H e E)
abbrev s_lane_in : Stmt := top 37
theorem sc_lane_in : FnScope ["numbers", "units", "count", "k"] ["numbers"] (defScope s_lane_in) := ⟨rfl, rfl, rfl, by decide +kernel, rfl, by decide +kernel, by decide +kernel⟩
/-! ### head_in -/
def m_head_in (a_numbers : (List D)) : Res ((Tp3 Int Int (List (Tp3 Int Int (List (Tp3 (Tp2 Int Int) (Option (Tp2 Int Int)) (Tp2 Int Int)))))) × (List D)) :=
  (m_Numbers__number a_numbers 0 1000000000).bind fun x1 => (m_Numbers__number x1.2 1 16).bind fun x8 => (m_Numbers__number x8.2 1 8).bind fun x15 => guardR (-(2 ^ 62) ≤ (x15.1 : Int)) <| (compR (rngI 0 x15.1) (x15.2 : (List D)) (fun x26 (a30 : (List D)) => (m_lane_in a30).bind fun x43 => .ok (some x43.1, x43.2))).bind <| un2 fun acc29 a30 => .ok ((⟨x1.1, x8.1, acc29⟩ : (Tp3 Int Int (List (Tp3 Int Int (List (Tp3 (Tp2 Int Int) (Option (Tp2 Int Int)) (Tp2 Int Int))))))), a30)
def sp_head_in (K : PySem.W.Frag) (mg : Str → Option Value) (C_Numbers : Addr) : Sp := fun vs H Q E => ∃ (B : Hp) (p_numbers : Addr) (a_numbers : (List D)), Ex B H ∧ vs = [.ref p_numbers] ∧ MuN K C_Numbers ["row", "at"] B H p_numbers a_numbers ∧ Post (m_head_in a_numbers) (fun r => RetNI K C_Numbers ["row", "at"] p_numbers B H (enc r.1) r.2 Q) (fun e => Rai mg [p_numbers] B H e E)
abbrev s_head_in : Stmt := top 38
theorem sc_head_in : FnScope ["numbers", "seal", "wide", "k"] ["numbers"] (defScope s_head_in) := ⟨rfl, rfl, rfl, by decide +kernel, rfl, by decide +kernel, by decide +kernel⟩
/-! ### Numbers____init__ -/
abbrev s_Numbers____init__ : Stmt := inClass (top 35) 0
theorem sc_Numbers____init__ : FnScope ["self", "row"] ["self", "row"] (defScope s_Numbers____init__) := ⟨rfl, rfl, rfl, by decide +kernel, rfl, by decide +kernel, by decide +kernel⟩
/-! ### read_as__head_in__head_body -/
def m_read_as__head_in__head_body (a_body : D) : Res (Tp3 Int Int (List (Tp3 Int Int (List (Tp3 (Tp2 Int Int) (Option (Tp2 Int Int)) (Tp2 Int Int)))))) :=
  ((m_is_bytes a_body).noErr).bind fun x1 => (if x1 = true then (asD (List Int) a_body).bind fun x7 => (m_head_in ([enc (x7 : (List Int)), .int 0] : List D)).bind fun x17 => (m_head_body (enc x17.1)).bind fun x26 => guardR (okEq (enc x26) a_body) <| (if (!(eqD (enc x26) a_body)) = true then .err ⟨"NoBody", []⟩ else .ok x17.1) else .err ⟨"NoBody", []⟩)
def sp_read_as__head_in__head_body (K : PySem.W.Frag) (mg : Str → Option Value) (f_head_in : Addr) (f_head_body : Addr) : Sp := fun vs H Q E => ∃ (B : Hp) (v_body : V) (a_body : D), Ex B H ∧ vs = [v_body, .ref f_head_in, .ref f_head_body] ∧ Rep K B v_body (enc a_body) ∧ Post (m_read_as__head_in__head_body a_body) (fun r => RetN K B H (enc r) Q) (fun e => Rai mg [] B H e E)
abbrev s_read_as__head_in__head_body : Stmt := top 39
theorem sc_read_as__head_in__head_body : FnScope ["body", "thing_in", "body_of", "thing"] ["body", "thing_in", "body_of"] (defScope s_read_as__head_in__head_body) := ⟨rfl, rfl, rfl, by decide +kernel, rfl, by decide +kernel, by decide +kernel⟩
/-! ### read_head -/
def m_read_head (a_body : D) : Res (Tp3 Int Int (List (Tp3 Int Int (List (Tp3 (Tp2 Int Int) (Option (Tp2 Int Int)) (Tp2 Int Int)))))) :=
  (m_read_as__head_in__head_body a_body).bind fun x1 => .ok x1
def sp_read_head (K : PySem.W.Frag) (mg : Str → Option Value) : Sp := fun vs H Q E => ∃ (B : Hp) (v_body : V) (a_body : D), Ex B H ∧ vs = [v_body] ∧ Rep K B v_body (enc a_body) ∧ Post (m_read_head a_body) (fun r => RetN K B H (enc r) Q) (fun e => Rai mg [] B H e E)
abbrev s_read_head : Stmt := top 40
theorem sc_read_head : FnScope ["body"] ["body"] (defScope s_read_head) := ⟨rfl, rfl, rfl, by decide +kernel, rfl, by decide +kernel, by decide +kernel⟩
/-! ### _law_digit -/
def l_digit (a_state : (List Int)) (a_base : Int) : Res (Int × (List Int)) :=
  ((if (decide ((a_state.length : Int) = 1)) = true then (ixR a_state 0).bind fun x12 => guardR (a_state.length + ([(x12 % 2147483647), 0] : List Int).length ≤ 1000000) <| .ok (a_state ++ ([(x12 % 2147483647), 0] : List Int)) else .ok a_state) : Res ((List Int))).bind fun a26 => (ixR a26 0).bind fun x34 => (if (decide (a_base ≤ x34)) = true then (ixR a26 0).bind fun x42 => guardR (0 < a_base) <| lt ((x42 % a_base) : Int) fun x46 => (ixR a26 0).bind fun x51 => guardR (CDivW x51 a_base) <| (setR a26 0 (x51 / a_base)).bind fun x55 => .ok (x46, x55) else (ixR a26 2).bind fun x64 => (setR a26 2 (x64 + 1)).bind fun x68 => (ixR x68 1).bind fun x77 => (ixR x68 2).bind fun x85 => lt (((((x77 + (7919 * x85)) + 1) * 48271) % 2147483647) : Int) fun x89 => guardR (CMulW x89 ((x89 / 1009) + 69621)) <| lt (((x89 * ((x89 / 1009) + 69621)) % 2147483647) : Int) fun x90 => guardR (CMulW x90 ((x90 / 2003) + 40692)) <| guardR (0 < a_base) <| .ok ((((x90 * ((x90 / 2003) + 40692)) % 2147483399) % a_base), x68))
def sp__law_digit (K : PySem.W.Frag) : Sp := fun vs H Q _ => ∃ (B : Hp) (p_state : Addr) (a_state : (List Int)) (a_base : Int), Ex B H ∧ vs = [.ref p_state, .int a_base] ∧ Mu K B H p_state (a_state.map enc) ∧ Post (l_digit a_state a_base) (fun r => RetM K p_state B H (enc r.1) (r.2.map enc) Q) (fun _ => False)
abbrev s__law_digit : Stmt := top 42
theorem sc__law_digit : FnScope ["_law_state", "_law_base", "_law_found", "_law_number"] ["_law_state", "_law_base"] (defScope s__law_digit) := ⟨rfl, rfl, rfl, by decide +kernel, rfl, by decide +kernel, by decide +kernel⟩
/-! ### _law_shared -/
def l_shared (a_one : Int) (a_other : Int) : Res Int :=
  lt ((absI a_one) : Int) fun x1 => lt ((absI a_other) : Int) fun x2 => (whileR (x2.natAbs + 1) ((x1, x2) : Int × Int) (fun (a12 : Int × Int) => (if (decide (0 < a12.2)) = true then guardR (0 < a12.2) <| lt ((a12.1 % a12.2) : Int) fun x16 => .ok (.nx (a12.2, x16)) else .ok (.bk (a12.1, a12.2))))).bind (afterR fun a17 => .ok a17.1)
def sp__law_shared (K : PySem.W.Frag) : Sp := fun vs H Q _ => ∃ (B : Hp) (a_one : Int) (a_other : Int), Ex B H ∧ vs = [.int a_one, .int a_other] ∧ Post (l_shared a_one a_other) (fun r => Ret K [] B H (enc r) Q) (fun _ => False)
abbrev s__law_shared : Stmt := top 43
theorem sc__law_shared : FnScope ["_law_one", "_law_other"] ["_law_one", "_law_other"] (defScope s__law_shared) := ⟨rfl, rfl, rfl, by decide +kernel, rfl, by decide +kernel, by decide +kernel⟩
/-! ### _law_lowest -/
def l_lowest (a_top : Int) (a_bottom : Int) : Res (Tp2 Int Int) :=
  (l_shared a_top a_bottom).bind fun x1 => guardR (CDivW a_top x1) <| guardR (CDivW a_bottom x1) <| .ok (⟨(a_top / x1), (a_bottom / x1)⟩ : (Tp2 Int Int))
def sp__law_lowest (K : PySem.W.Frag) : Sp := fun vs H Q _ => ∃ (B : Hp) (a_top : Int) (a_bottom : Int), Ex B H ∧ vs = [.int a_top, .int a_bottom] ∧ Post (l_lowest a_top a_bottom) (fun r => Ret K [] B H (enc r) Q) (fun _ => False)
abbrev s__law_lowest : Stmt := top 44
theorem sc__law_lowest : FnScope ["_law_top", "_law_bottom", "_law_share"] ["_law_top", "_law_bottom"] (defScope s__law_lowest) := ⟨rfl, rfl, rfl, by decide +kernel, rfl, by decide +kernel, by decide +kernel⟩
/-! ### _law_figures -/
def l_figures (a_number : Int) : Res (List Int) :=
  (whileR (a_number.natAbs + 1) ((a_number, ([(a_number % 128)] : List Int)) : Int × (List Int)) (fun (a16 : Int × (List Int)) => (if (decide (128 ≤ a16.1)) = true then lt ((a16.1 / 128) : Int) fun x23 => guardR (([(128 + (x23 % 128))] : List Int).length + a16.2.length ≤ 1000000) <| .ok (.nx (x23, (([(128 + (x23 % 128))] : List Int) ++ a16.2))) else .ok (.bk (a16.1, a16.2))))).bind (afterR fun a45 => .ok a45.2)
def sp__law_figures (K : PySem.W.Frag) : Sp := fun vs H Q _ => ∃ (B : Hp) (a_number : Int), Ex B H ∧ vs = [.int a_number] ∧ Post (l_figures a_number) (fun r => RetF K [] B H (r.map enc) Q) (fun _ => False)
abbrev s__law_figures : Stmt := top 45
theorem sc__law_figures : FnScope ["_law_number", "_law_found"] ["_law_number"] (defScope s__law_figures) := ⟨rfl, rfl, rfl, by decide +kernel, rfl, by decide +kernel, by decide +kernel⟩
/-! ### _law_edit_numbers -/
def l_edit_numbers (a_row : (Tp3 (Tp2 Int Int) (Option (Tp2 Int Int)) (Tp2 Int Int))) : Res (List Int) :=
  (if (isNonD (enc a_row.b)) = true then .ok ([a_row.a.a, a_row.a.b, 0] : List Int) else (someR a_row.b).bind fun x40 => (someR a_row.b).bind fun x49 => .ok ([a_row.a.a, a_row.a.b, 1, x40.a, x49.b, a_row.c.a, a_row.c.b] : List Int))
def sp__law_edit_numbers (K : PySem.W.Frag) : Sp := fun vs H Q _ => ∃ (B : Hp) (v_row : V) (a_row : (Tp3 (Tp2 Int Int) (Option (Tp2 Int Int)) (Tp2 Int Int))), Ex B H ∧ vs = [v_row] ∧ Rep K B v_row (enc a_row) ∧ Post (l_edit_numbers a_row) (fun r => Ret K [] B H (enc r) Q) (fun _ => False)
abbrev s__law_edit_numbers : Stmt := top 46
theorem sc__law_edit_numbers : FnScope ["_law_row", "_law_span", "_law_start", "_law_rate"] ["_law_row"] (defScope s__law_edit_numbers) := ⟨rfl, rfl, rfl, by decide +kernel, rfl, by decide +kernel, by decide +kernel⟩
/-! ### _law_head_numbers -/
def l_head_numbers (a_head_here : (Tp3 Int Int (List (Tp3 Int Int (List (Tp3 (Tp2 Int Int) (Option (Tp2 Int Int)) (Tp2 Int Int))))))) : Res (List Int) :=
  (forR (a_head_here.c) (([a_head_here.a, a_head_here.b, (a_head_here.c.length : Int)] : List Int) : (List Int)) (fun x32 (a31 : (List Int)) => guardR (a31.length + ([x32.a, x32.b, (x32.c.length : Int)] : List Int).length ≤ 1000000) <| (forR (x32.c) ((a31 ++ ([x32.a, x32.b, (x32.c.length : Int)] : List Int)) : (List Int)) (fun x88 (a87 : (List Int)) => (l_edit_numbers x88).bind fun x97 => guardR (a87.length + x97.length ≤ 1000000) <| .ok (.nx (a87 ++ x97)))).bind (afterR fun a116 => .ok (.nx a116)))).bind (afterR fun a123 => .ok a123)
def sp__law_head_numbers (K : PySem.W.Frag) : Sp := fun vs H Q _ => ∃ (B : Hp) (v_head_here : V) (a_head_here : (Tp3 Int Int (List (Tp3 Int Int (List (Tp3 (Tp2 Int Int) (Option (Tp2 Int Int)) (Tp2 Int Int))))))), Ex B H ∧ vs = [v_head_here] ∧ Rep K B v_head_here (enc a_head_here) ∧ Post (l_head_numbers a_head_here) (fun r => Ret K [] B H (enc r) Q) (fun _ => False)
abbrev s__law_head_numbers : Stmt := top 48
theorem sc__law_head_numbers : FnScope ["_law_head_here", "_law_seal", "_law_wide", "_law_lanes", "_law_found", "_law_units", "_law_count", "_law_rows", "_law_row"] ["_law_head_here"] (defScope s__law_head_numbers) := ⟨rfl, rfl, rfl, by decide +kernel, rfl, by decide +kernel, by decide +kernel⟩
/-! ### _law_all_figures -/
def l_all_figures (a_numbers : (List Int)) : Res (List Int) :=
  (forR (a_numbers) (([] : List Int) : (List Int)) (fun x19 (a18 : (List Int)) => (l_figures x19).bind fun x26 => guardR (a18.length + x26.length ≤ 1000000) <| .ok (.nx (a18 ++ x26)))).bind (afterR fun a41 => .ok a41)
def sp__law_all_figures (K : PySem.W.Frag) : Sp := fun vs H Q _ => ∃ (B : Hp) (v_numbers : V) (a_numbers : (List Int)), Ex B H ∧ vs = [v_numbers] ∧ Rep K B v_numbers (enc a_numbers) ∧ Post (l_all_figures a_numbers) (fun r => Ret K [] B H (enc r) Q) (fun _ => False)
abbrev s__law_all_figures : Stmt := top 51
theorem sc__law_all_figures : FnScope ["_law_numbers", "_law_found", "_law_number"] ["_law_numbers"] (defScope s__law_all_figures) := ⟨rfl, rfl, rfl, by decide +kernel, rfl, by decide +kernel, by decide +kernel⟩
/-! ### _law_refused__read_head -/
def l_refused__read_head (a_thing : D) : Res Bool :=
  (tryR ((m_read_head a_thing).bind fun x7 => .ok (.nx ()) : Res (Fl (Unit) (Bool))) (fun ⟨ec, _⟩ => guardR (ec ∈ (["NoBody"] : List Str)) <| .ok (.rt (!false)))).bind (afterR fun a24 => .ok false)
def sp__law_refused__read_head (K : PySem.W.Frag) (f_read_head : Addr) : Sp := fun vs H Q _ => ∃ (B : Hp) (v_thing : V) (a_thing : D), Ex B H ∧ vs = [.ref f_read_head, v_thing] ∧ Rep K B v_thing (enc a_thing) ∧ Post (l_refused__read_head a_thing) (fun r => Ret K [] B H (enc r) Q) (fun _ => False)
abbrev s__law_refused__read_head : Stmt := top 52
theorem sc__law_refused__read_head : FnScope ["_law_ask", "_law_thing", "e"] ["_law_ask", "_law_thing"] (defScope s__law_refused__read_head) := ⟨rfl, rfl, rfl, by decide +kernel, rfl, by decide +kernel, by decide +kernel⟩
/-! ### _law_refused__head_body -/
def l_refused__head_body (a_thing : D) : Res Bool :=
  (tryR ((m_head_body a_thing).bind fun x7 => .ok (.nx ()) : Res (Fl (Unit) (Bool))) (fun ⟨ec, _⟩ => guardR (ec ∈ (["NoBody"] : List Str)) <| .ok (.rt (!false)))).bind (afterR fun a33 => .ok false)
def sp__law_refused__head_body (K : PySem.W.Frag) (f_head_body : Addr) : Sp := fun vs H Q _ => ∃ (B : Hp) (v_thing : V) (a_thing : D), Ex B H ∧ vs = [.ref f_head_body, v_thing] ∧ Rep K B v_thing (enc a_thing) ∧ Post (l_refused__head_body a_thing) (fun r => Ret K [] B H (enc r) Q) (fun _ => False)
abbrev s__law_refused__head_body : Stmt := top 52
theorem sc__law_refused__head_body : FnScope ["_law_ask", "_law_thing", "e"] ["_law_ask", "_law_thing"] (defScope s__law_refused__head_body) := ⟨rfl, rfl, rfl, by decide +kernel, rfl, by decide +kernel, by decide +kernel⟩
/-! ### _law_moment -/
def l_moment (a_state : (List Int)) (a_most : Int) : Res ((Tp2 Int Int) × (List Int)) :=
  (l_digit a_state a_most).bind fun x1 => (l_digit x1.2 3).bind fun x12 => (ixR ([1, 9, 1000000000000000000000000000000] : List Int) x12.1).bind fun x22 => (l_digit x12.2 x22).bind fun x26 => (l_lowest x1.1 (1 + x26.1)).bind fun x32 => .ok (x32, x26.2)
def sp__law_moment (K : PySem.W.Frag) : Sp := fun vs H Q _ => ∃ (B : Hp) (p_state : Addr) (a_state : (List Int)) (a_most : Int), Ex B H ∧ vs = [.ref p_state, .int a_most] ∧ Mu K B H p_state (a_state.map enc) ∧ Post (l_moment a_state a_most) (fun r => RetM K p_state B H (enc r.1) (r.2.map enc) Q) (fun _ => False)
abbrev s__law_moment : Stmt := top 53
theorem sc__law_moment : FnScope ["_law_state", "_law_most"] ["_law_state", "_law_most"] (defScope s__law_moment) := ⟨rfl, rfl, rfl, by decide +kernel, rfl, by decide +kernel, by decide +kernel⟩
/-! ### _law_edit -/
def l_edit (a_state : (List Int)) : Res ((Tp3 (Tp2 Int Int) (Option (Tp2 Int Int)) (Tp2 Int Int)) × (List Int)) :=
  (l_digit a_state 3).bind fun x6 => (ixR ([9, 1000, 1000000000000000000000000000000] : List Int) x6.1).bind fun x16 => (l_digit x6.2 x16).bind fun x20 => (l_digit x20.2 9).bind fun x26 => (l_lowest (1 + x20.1) (1 + x26.1)).bind fun x32 => (l_digit x26.2 4).bind fun x38 => (if (decide (x38.1 = 0)) = true then .ok ((⟨(⟨x32, (), (⟨0, 1⟩ : (Tp2 Int Int))⟩ : (Tp3 (Tp2 Int Int) Unit (Tp2 Int Int))).a, none, (⟨x32, (), (⟨0, 1⟩ : (Tp2 Int Int))⟩ : (Tp3 (Tp2 Int Int) Unit (Tp2 Int Int))).c⟩ : (Tp3 (Tp2 Int Int) (Option (Tp2 Int Int)) (Tp2 Int Int))), x38.2) else (l_moment x38.2 x16).bind fun x54 => (l_moment x54.2 5).bind fun x60 => .ok ((⟨(⟨x32, x54.1, x60.1⟩ : (Tp3 (Tp2 Int Int) (Tp2 Int Int) (Tp2 Int Int))).a, (some ((⟨x32, x54.1, x60.1⟩ : (Tp3 (Tp2 Int Int) (Tp2 Int Int) (Tp2 Int Int))).b)), (⟨x32, x54.1, x60.1⟩ : (Tp3 (Tp2 Int Int) (Tp2 Int Int) (Tp2 Int Int))).c⟩ : (Tp3 (Tp2 Int Int) (Option (Tp2 Int Int)) (Tp2 Int Int))), x60.2))
def sp__law_edit (K : PySem.W.Frag) : Sp := fun vs H Q _ => ∃ (B : Hp) (p_state : Addr) (a_state : (List Int)), Ex B H ∧ vs = [.ref p_state] ∧ Mu K B H p_state (a_state.map enc) ∧ Post (l_edit a_state) (fun r => RetM K p_state B H (enc r.1) (r.2.map enc) Q) (fun _ => False)
abbrev s__law_edit : Stmt := top 54
theorem sc__law_edit : FnScope ["_law_state", "_law_most", "_law_span"] ["_law_state"] (defScope s__law_edit) := ⟨rfl, rfl, rfl, by decide +kernel, rfl, by decide +kernel, by decide +kernel⟩
/-! ### _law_head -/
def l_head (a_state : (List Int)) : Res ((Tp3 Int Int (List (Tp3 Int Int (List (Tp3 (Tp2 Int Int) (Option (Tp2 Int Int)) (Tp2 Int Int)))))) × (List Int)) :=
  (l_digit a_state 2).bind fun x13 => (ixR ([3, 8] : List Int) x13.1).bind fun x23 => (l_digit x13.2 x23).bind fun x27 => guardR (-(2 ^ 62) ≤ ((1 + x27.1) : Int) ∧ ((1 + x27.1) : Int) < 2 ^ 62) <| (forR (rngI 0 (1 + x27.1)) ((x27.2, ([] : List (Tp3 Int Int (List (Tp3 (Tp2 Int Int) (Option (Tp2 Int Int)) (Tp2 Int Int)))))) : (List Int) × (List (Tp3 Int Int (List (Tp3 (Tp2 Int Int) (Option (Tp2 Int Int)) (Tp2 Int Int)))))) (fun x42 (a41 : (List Int) × (List (Tp3 Int Int (List (Tp3 (Tp2 Int Int) (Option (Tp2 Int Int)) (Tp2 Int Int)))))) => (l_digit a41.1 5).bind fun x52 => guardR (-(2 ^ 62) ≤ (x52.1 : Int)) <| (compR (rngI 0 x52.1) (x52.2 : (List Int)) (fun x62 (a66 : (List Int)) => (l_edit a66).bind fun x81 => .ok (some x81.1, x81.2))).bind <| un2 fun acc65 a66 => (l_digit a66 1000000).bind fun x96 => (l_digit x96.2 3).bind fun x107 => (ixR ([1, 1000, (1 + x96.1)] : List Int) x107.1).bind fun x117 => (l_digit x107.2 201).bind fun x121 => guardR (a41.2.length < 1000000) <| .ok (.nx (x121.2, (a41.2 ++ [(⟨x117, x121.1, acc65⟩ : (Tp3 Int Int (List (Tp3 (Tp2 Int Int) (Option (Tp2 Int Int)) (Tp2 Int Int)))))]))))).bind (afterR fun a134 => (l_digit a134.1 (1000000000 + 1)).bind fun x142 => (l_digit x142.2 16).bind fun x148 => .ok ((⟨x142.1, (1 + x148.1), a134.2⟩ : (Tp3 Int Int (List (Tp3 Int Int (List (Tp3 (Tp2 Int Int) (Option (Tp2 Int Int)) (Tp2 Int Int))))))), x148.2))
def sp__law_head (K : PySem.W.Frag) : Sp := fun vs H Q _ => ∃ (B : Hp) (p_state : Addr) (a_state : (List Int)), Ex B H ∧ vs = [.ref p_state] ∧ Mu K B H p_state (a_state.map enc) ∧ Post (l_head a_state) (fun r => RetM K p_state B H (enc r.1) (r.2.map enc) Q) (fun _ => False)
abbrev s__law_head : Stmt := top 55
theorem sc__law_head : FnScope ["_law_state", "_law_lanes", "_law_k", "_law_rows", "_law_j", "_law_units"] ["_law_state"] (defScope s__law_head) := ⟨rfl, rfl, rfl, by decide +kernel, rfl, by decide +kernel, by decide +kernel⟩
/-! ### _law_no_edit -/
def l_no_edit (a_state : (List Int)) (a_row : D) : Res (D × (List Int)) :=
  (asT a_row).bind fun l1 => (asT a_row).bind fun l13 => (asT a_row).bind fun l30 => (ixR l30 1).bind fun x37 => (asT a_row).bind fun l41 => (ixR l41 2).bind fun x48 => (asT a_row).bind fun l62 => (ixR l62 1).bind fun x69 => (asT a_row).bind fun l73 => (ixR l73 2).bind fun x80 => (asT a_row).bind fun l89 => (ixR l89 0).bind fun x96 => (asT a_row).bind fun l125 => (ixR l125 1).bind fun x132 => (asT a_row).bind fun l136 => (ixR l136 2).bind fun x143 => (asT a_row).bind fun l152 => (ixR l152 0).bind fun x159 => (asT a_row).bind fun l173 => (ixR l173 0).bind fun x180 => (asT a_row).bind fun l199 => (ixR l199 0).bind fun x206 => guardR (([(enc ()), (.tup ((cutL l1 none (some 2)).map enc) : D), (enc l13), (enc (⟨(⟨0, 1⟩ : (Tp2 Int Int)), x37, x48⟩ : (Tp3 (Tp2 Int Int) D D))), (enc (⟨(⟨2, 2⟩ : (Tp2 Int Int)), x69, x80⟩ : (Tp3 (Tp2 Int Int) D D))), (enc (⟨x96, (⟨1, 0⟩ : (Tp2 Int Int)), (⟨1, 1⟩ : (Tp2 Int Int))⟩ : (Tp3 D (Tp2 Int Int) (Tp2 Int Int))))] : List D).length + ([(enc (⟨(⟨(-1), 2⟩ : (Tp2 Int Int)), x132, x143⟩ : (Tp3 (Tp2 Int Int) D D))), (enc (⟨x159, (), (⟨1, 1⟩ : (Tp2 Int Int))⟩ : (Tp3 D Unit (Tp2 Int Int)))), (enc (⟨x180, (⟨0, 1⟩ : (Tp2 Int Int)), (⟨(-1), 1⟩ : (Tp2 Int Int))⟩ : (Tp3 D (Tp2 Int Int) (Tp2 Int Int)))), (enc (⟨x206, 3, (⟨1, 1⟩ : (Tp2 Int Int))⟩ : (Tp3 D Int (Tp2 Int Int))))] : List D).length ≤ 1000000) <| (asT a_row).bind fun l253 => (ixR l253 0).bind fun x260 => guardR ((([(enc ()), (.tup ((cutL l1 none (some 2)).map enc) : D), (enc l13), (enc (⟨(⟨0, 1⟩ : (Tp2 Int Int)), x37, x48⟩ : (Tp3 (Tp2 Int Int) D D))), (enc (⟨(⟨2, 2⟩ : (Tp2 Int Int)), x69, x80⟩ : (Tp3 (Tp2 Int Int) D D))), (enc (⟨x96, (⟨1, 0⟩ : (Tp2 Int Int)), (⟨1, 1⟩ : (Tp2 Int Int))⟩ : (Tp3 D (Tp2 Int Int) (Tp2 Int Int))))] : List D) ++ ([(enc (⟨(⟨(-1), 2⟩ : (Tp2 Int Int)), x132, x143⟩ : (Tp3 (Tp2 Int Int) D D))), (enc (⟨x159, (), (⟨1, 1⟩ : (Tp2 Int Int))⟩ : (Tp3 D Unit (Tp2 Int Int)))), (enc (⟨x180, (⟨0, 1⟩ : (Tp2 Int Int)), (⟨(-1), 1⟩ : (Tp2 Int Int))⟩ : (Tp3 D (Tp2 Int Int) (Tp2 Int Int)))), (enc (⟨x206, 3, (⟨1, 1⟩ : (Tp2 Int Int))⟩ : (Tp3 D Int (Tp2 Int Int))))] : List D)).length + ([(enc (⟨(⟨(1000000000000000000000000000000 + 1), 1⟩ : (Tp2 Int Int)), (), (⟨0, 1⟩ : (Tp2 Int Int))⟩ : (Tp3 (Tp2 Int Int) Unit (Tp2 Int Int)))), (enc (⟨x260, (⟨1, (1000000000000000000000000000000 + 1)⟩ : (Tp2 Int Int)), (⟨1, 1⟩ : (Tp2 Int Int))⟩ : (Tp3 D (Tp2 Int Int) (Tp2 Int Int)))), (enc (⟨(⟨(decide (1 = 1)), 1⟩ : (Tp2 Bool Int)), (), (⟨0, 1⟩ : (Tp2 Int Int))⟩ : (Tp3 (Tp2 Bool Int) Unit (Tp2 Int Int))))] : List D).length ≤ 1000000) <| (l_digit a_state (((([(enc ()), (.tup ((cutL l1 none (some 2)).map enc) : D), (enc l13), (enc (⟨(⟨0, 1⟩ : (Tp2 Int Int)), x37, x48⟩ : (Tp3 (Tp2 Int Int) D D))), (enc (⟨(⟨2, 2⟩ : (Tp2 Int Int)), x69, x80⟩ : (Tp3 (Tp2 Int Int) D D))), (enc (⟨x96, (⟨1, 0⟩ : (Tp2 Int Int)), (⟨1, 1⟩ : (Tp2 Int Int))⟩ : (Tp3 D (Tp2 Int Int) (Tp2 Int Int))))] : List D) ++ ([(enc (⟨(⟨(-1), 2⟩ : (Tp2 Int Int)), x132, x143⟩ : (Tp3 (Tp2 Int Int) D D))), (enc (⟨x159, (), (⟨1, 1⟩ : (Tp2 Int Int))⟩ : (Tp3 D Unit (Tp2 Int Int)))), (enc (⟨x180, (⟨0, 1⟩ : (Tp2 Int Int)), (⟨(-1), 1⟩ : (Tp2 Int Int))⟩ : (Tp3 D (Tp2 Int Int) (Tp2 Int Int)))), (enc (⟨x206, 3, (⟨1, 1⟩ : (Tp2 Int Int))⟩ : (Tp3 D Int (Tp2 Int Int))))] : List D)) ++ ([(enc (⟨(⟨(1000000000000000000000000000000 + 1), 1⟩ : (Tp2 Int Int)), (), (⟨0, 1⟩ : (Tp2 Int Int))⟩ : (Tp3 (Tp2 Int Int) Unit (Tp2 Int Int)))), (enc (⟨x260, (⟨1, (1000000000000000000000000000000 + 1)⟩ : (Tp2 Int Int)), (⟨1, 1⟩ : (Tp2 Int Int))⟩ : (Tp3 D (Tp2 Int Int) (Tp2 Int Int)))), (enc (⟨(⟨(decide (1 = 1)), 1⟩ : (Tp2 Bool Int)), (), (⟨0, 1⟩ : (Tp2 Int Int))⟩ : (Tp3 (Tp2 Bool Int) Unit (Tp2 Int Int))))] : List D)).length : Int)).bind fun x316 => (ixR ((([(enc ()), (.tup ((cutL l1 none (some 2)).map enc) : D), (enc l13), (enc (⟨(⟨0, 1⟩ : (Tp2 Int Int)), x37, x48⟩ : (Tp3 (Tp2 Int Int) D D))), (enc (⟨(⟨2, 2⟩ : (Tp2 Int Int)), x69, x80⟩ : (Tp3 (Tp2 Int Int) D D))), (enc (⟨x96, (⟨1, 0⟩ : (Tp2 Int Int)), (⟨1, 1⟩ : (Tp2 Int Int))⟩ : (Tp3 D (Tp2 Int Int) (Tp2 Int Int))))] : List D) ++ ([(enc (⟨(⟨(-1), 2⟩ : (Tp2 Int Int)), x132, x143⟩ : (Tp3 (Tp2 Int Int) D D))), (enc (⟨x159, (), (⟨1, 1⟩ : (Tp2 Int Int))⟩ : (Tp3 D Unit (Tp2 Int Int)))), (enc (⟨x180, (⟨0, 1⟩ : (Tp2 Int Int)), (⟨(-1), 1⟩ : (Tp2 Int Int))⟩ : (Tp3 D (Tp2 Int Int) (Tp2 Int Int)))), (enc (⟨x206, 3, (⟨1, 1⟩ : (Tp2 Int Int))⟩ : (Tp3 D Int (Tp2 Int Int))))] : List D)) ++ ([(enc (⟨(⟨(1000000000000000000000000000000 + 1), 1⟩ : (Tp2 Int Int)), (), (⟨0, 1⟩ : (Tp2 Int Int))⟩ : (Tp3 (Tp2 Int Int) Unit (Tp2 Int Int)))), (enc (⟨x260, (⟨1, (1000000000000000000000000000000 + 1)⟩ : (Tp2 Int Int)), (⟨1, 1⟩ : (Tp2 Int Int))⟩ : (Tp3 D (Tp2 Int Int) (Tp2 Int Int)))), (enc (⟨(⟨(decide (1 = 1)), 1⟩ : (Tp2 Bool Int)), (), (⟨0, 1⟩ : (Tp2 Int Int))⟩ : (Tp3 (Tp2 Bool Int) Unit (Tp2 Int Int))))] : List D)) x316.1).bind fun x326 => .ok (x326, x316.2)
def sp__law_no_edit (K : PySem.W.Frag) : Sp := fun vs H Q _ => ∃ (B : Hp) (p_state : Addr) (a_state : (List Int)) (v_row : V) (a_row : D), Ex B H ∧ vs = [.ref p_state, v_row] ∧ Mu K B H p_state (a_state.map enc) ∧ Rep K B v_row (enc a_row) ∧ Post (l_no_edit a_state a_row) (fun r => RetM K p_state B H (enc r.1) (r.2.map enc) Q) (fun _ => False)
abbrev s__law_no_edit : Stmt := top 56
theorem sc__law_no_edit : FnScope ["_law_state", "_law_row", "_law_some"] ["_law_state", "_law_row"] (defScope s__law_no_edit) := ⟨rfl, rfl, rfl, by decide +kernel, rfl, by decide +kernel, by decide +kernel⟩
/-! ### _law_no_lane -/
def l_no_lane (a_state : (List Int)) (a_lane : (Tp3 Int Int (List (Tp3 (Tp2 Int Int) (Option (Tp2 Int Int)) (Tp2 Int Int))))) : Res (D × (List Int)) :=
  (l_digit a_state 5).bind fun x11 => (if (decide (x11.1 = 0)) = true then (l_no_edit x11.2 (enc (⟨(⟨1, 2⟩ : (Tp2 Int Int)), (⟨0, 1⟩ : (Tp2 Int Int)), (⟨1, 1⟩ : (Tp2 Int Int))⟩ : (Tp3 (Tp2 Int Int) (Tp2 Int Int) (Tp2 Int Int))))).bind fun x37 => guardR ((a_lane.c.map enc : List D).length + ([x37.1] : List D).length ≤ 1000000) <| .ok ((enc (⟨a_lane.a, a_lane.b, ((a_lane.c.map enc : List D) ++ ([x37.1] : List D))⟩ : (Tp3 Int Int (List D)))), x37.2) else (if (decide (x11.1 = 1)) = true then (l_digit x11.2 7).bind fun x76 => (ixR ([(enc (0 : Int)), (enc ((1000000 + 1) : Int)), (enc ((-1) : Int)), (enc ()), (enc (decide (1 = 1))), (enc ("1" : Str)), (enc (⟨1, 1⟩ : (Tp2 Int Int)))] : List D) x76.1).bind fun x86 => .ok ((enc (⟨x86, a_lane.b, a_lane.c⟩ : (Tp3 D Int (List (Tp3 (Tp2 Int Int) (Option (Tp2 Int Int)) (Tp2 Int Int)))))), x76.2) else (if (decide (x11.1 = 2)) = true then (l_digit x11.2 6).bind fun x105 => (ixR ([(enc (201 : Int)), (enc ((-1) : Int)), (enc ()), (enc (decide (1 = 1))), (enc ("1" : Str)), (enc ([1] : List Int))] : List D) x105.1).bind fun x115 => .ok ((enc (⟨a_lane.a, x115, a_lane.c⟩ : (Tp3 Int D (List (Tp3 (Tp2 Int Int) (Option (Tp2 Int Int)) (Tp2 Int Int)))))), x105.2) else (if (decide (x11.1 = 3)) = true then guardR (([(⟨(⟨1, 1⟩ : (Tp2 Int Int)), (), (⟨0, 1⟩ : (Tp2 Int Int))⟩ : (Tp3 (Tp2 Int Int) Unit (Tp2 Int Int)))] : List (Tp3 (Tp2 Int Int) Unit (Tp2 Int Int))).length * (Int.toNat 61) ≤ 1000000 ∧ -(2 ^ 62) ≤ (61 : Int) ∧ (61 : Int) < 2 ^ 62) <| (l_digit x11.2 6).bind fun x172 => (ixR ([(enc ()), (.tup (a_lane.c.map enc) : D), (.dic [] : D), (enc ("" : Str)), (enc (0 : Int)), (enc (timesL ([(⟨(⟨1, 1⟩ : (Tp2 Int Int)), (), (⟨0, 1⟩ : (Tp2 Int Int))⟩ : (Tp3 (Tp2 Int Int) Unit (Tp2 Int Int)))] : List (Tp3 (Tp2 Int Int) Unit (Tp2 Int Int))) 61))] : List D) x172.1).bind fun x182 => .ok ((enc (⟨a_lane.a, a_lane.b, x182⟩ : (Tp3 Int Int D))), x172.2) else (l_digit x11.2 6).bind fun x216 => (ixR ([(enc ()), (enc ([(enc (a_lane.a : Int)), (enc (a_lane.b : Int)), (enc a_lane.c)] : List D)), (enc (⟨a_lane.a, a_lane.b⟩ : (Tp2 Int Int))), (enc (⟨a_lane.a, a_lane.b, a_lane.c, 0⟩ : (Tp4 Int Int (List (Tp3 (Tp2 Int Int) (Option (Tp2 Int Int)) (Tp2 Int Int))) Int))), (.tup [] : D), (enc ("lane" : Str))] : List D) x216.1).bind fun x226 => .ok (x226, x216.2)))))
def sp__law_no_lane (K : PySem.W.Frag) : Sp := fun vs H Q _ => ∃ (B : Hp) (p_state : Addr) (a_state : (List Int)) (v_lane : V) (a_lane : (Tp3 Int Int (List (Tp3 (Tp2 Int Int) (Option (Tp2 Int Int)) (Tp2 Int Int))))), Ex B H ∧ vs = [.ref p_state, v_lane] ∧ Mu K B H p_state (a_state.map enc) ∧ Rep K B v_lane (enc a_lane) ∧ Post (l_no_lane a_state a_lane) (fun r => RetM K p_state B H (enc r.1) (r.2.map enc) Q) (fun _ => False)
abbrev s__law_no_lane : Stmt := top 57
theorem sc__law_no_lane : FnScope ["_law_state", "_law_lane", "_law_units", "_law_count", "_law_rows", "_law_way"] ["_law_state", "_law_lane"] (defScope s__law_no_lane) := ⟨rfl, rfl, rfl, by decide +kernel, rfl, by decide +kernel, by decide +kernel⟩
/-! ### _law_no_head -/
def l_no_head (a_state : (List Int)) (a_head_here : (Tp3 Int Int (List (Tp3 Int Int (List (Tp3 (Tp2 Int Int) (Option (Tp2 Int Int)) (Tp2 Int Int))))))) : Res (D × (List Int)) :=
  (l_digit a_state 5).bind fun x11 => (if (decide (x11.1 = 0)) = true then (l_digit x11.2 7).bind fun x47 => (ixR ([(enc ()), (enc ([(enc (a_head_here.a : Int)), (enc (a_head_here.b : Int)), (enc a_head_here.c)] : List D)), (enc (⟨a_head_here.a, a_head_here.b⟩ : (Tp2 Int Int))), (enc (⟨a_head_here.a, a_head_here.b, a_head_here.c, 0⟩ : (Tp4 Int Int (List (Tp3 Int Int (List (Tp3 (Tp2 Int Int) (Option (Tp2 Int Int)) (Tp2 Int Int))))) Int))), (.tup [] : D), (enc ("head" : Str)), (.dic [] : D)] : List D) x47.1).bind fun x57 => .ok (x57, x47.2) else (if (decide (x11.1 = 1)) = true then (l_digit x11.2 5).bind fun x66 => (ixR ([(enc ((-1) : Int)), (enc ((1000000000 + 1) : Int)), (enc ()), (enc (decide (1 = 1))), (enc ("1" : Str))] : List D) x66.1).bind fun x76 => .ok ((enc (⟨x76, a_head_here.b, a_head_here.c⟩ : (Tp3 D Int (List (Tp3 Int Int (List (Tp3 (Tp2 Int Int) (Option (Tp2 Int Int)) (Tp2 Int Int)))))))), x66.2) else (if (decide (x11.1 = 2)) = true then (l_digit x11.2 6).bind fun x90 => (ixR ([(enc (0 : Int)), (enc (17 : Int)), (enc ((-1) : Int)), (enc ()), (enc (decide (1 = 1))), (enc ("1" : Str))] : List D) x90.1).bind fun x100 => .ok ((enc (⟨a_head_here.a, x100, a_head_here.c⟩ : (Tp3 Int D (List (Tp3 Int Int (List (Tp3 (Tp2 Int Int) (Option (Tp2 Int Int)) (Tp2 Int Int)))))))), x90.2) else (if (decide (x11.1 = 3)) = true then guardR (a_head_here.c.length * (Int.toNat 9) ≤ 1000000 ∧ -(2 ^ 62) ≤ (9 : Int) ∧ (9 : Int) < 2 ^ 62) <| (l_digit x11.2 5).bind fun x151 => (ixR ([(enc ([] : List D)), (enc ()), (.tup (a_head_here.c.map enc) : D), (.dic [] : D), (enc (cutL (timesL a_head_here.c 9) none (some 9)))] : List D) x151.1).bind fun x161 => .ok ((enc (⟨a_head_here.a, a_head_here.b, x161⟩ : (Tp3 Int Int D))), x151.2) else (l_digit x11.2 (a_head_here.c.length : Int)).bind fun x174 => (ixR a_head_here.c x174.1).bind fun x193 => (l_no_lane x174.2 x193).bind fun x197 => guardR (((cutL a_head_here.c none (some x174.1)).map enc : List D).length + ([x197.1] : List D).length ≤ 1000000) <| guardR ((((cutL a_head_here.c none (some x174.1)).map enc : List D) ++ ([x197.1] : List D)).length + ((cutL a_head_here.c (some (x174.1 + 1)) none).map enc : List D).length ≤ 1000000) <| .ok ((enc (⟨a_head_here.a, a_head_here.b, ((((cutL a_head_here.c none (some x174.1)).map enc : List D) ++ ([x197.1] : List D)) ++ ((cutL a_head_here.c (some (x174.1 + 1)) none).map enc : List D))⟩ : (Tp3 Int Int (List D)))), x197.2)))))
def sp__law_no_head (K : PySem.W.Frag) : Sp := fun vs H Q _ => ∃ (B : Hp) (p_state : Addr) (a_state : (List Int)) (v_head_here : V) (a_head_here : (Tp3 Int Int (List (Tp3 Int Int (List (Tp3 (Tp2 Int Int) (Option (Tp2 Int Int)) (Tp2 Int Int))))))), Ex B H ∧ vs = [.ref p_state, v_head_here] ∧ Mu K B H p_state (a_state.map enc) ∧ Rep K B v_head_here (enc a_head_here) ∧ Post (l_no_head a_state a_head_here) (fun r => RetM K p_state B H (enc r.1) (r.2.map enc) Q) (fun _ => False)
abbrev s__law_no_head : Stmt := top 58
theorem sc__law_no_head : FnScope ["_law_state", "_law_head_here", "_law_seal", "_law_wide", "_law_lanes", "_law_way", "_law_at"] ["_law_state", "_law_head_here"] (defScope s__law_no_head) := ⟨rfl, rfl, rfl, by decide +kernel, rfl, by decide +kernel, by decide +kernel⟩
/-! ### _law_kept -/
def l_kept (a_head_here : (Tp3 Int Int (List (Tp3 Int Int (List (Tp3 (Tp2 Int Int) (Option (Tp2 Int Int)) (Tp2 Int Int))))))) : Res (Tp3 Int Int (List (Tp3 Int Int (List (Tp3 (Tp2 Int Int) (Option (Tp2 Int Int)) (Tp2 Int Int)))))) :=
  (compR (a_head_here.c) (() : Unit) (fun x26 (a30 : Unit) => .ok (some (⟨x26.a, x26.b, x26.c⟩ : (Tp3 Int Int (List (Tp3 (Tp2 Int Int) (Option (Tp2 Int Int)) (Tp2 Int Int))))), ()))).bind <| un2 fun acc29 a30 => .ok (⟨a_head_here.a, a_head_here.b, acc29⟩ : (Tp3 Int Int (List (Tp3 Int Int (List (Tp3 (Tp2 Int Int) (Option (Tp2 Int Int)) (Tp2 Int Int)))))))
def sp__law_kept (K : PySem.W.Frag) : Sp := fun vs H Q _ => ∃ (B : Hp) (v_head_here : V) (a_head_here : (Tp3 Int Int (List (Tp3 Int Int (List (Tp3 (Tp2 Int Int) (Option (Tp2 Int Int)) (Tp2 Int Int))))))), Ex B H ∧ vs = [v_head_here] ∧ Rep K B v_head_here (enc a_head_here) ∧ Post (l_kept a_head_here) (fun r => Ret K [] B H (enc r) Q) (fun _ => False)
abbrev s__law_kept : Stmt := top 59
theorem sc__law_kept : FnScope ["_law_head_here", "_law_units", "_law_count", "_law_rows"] ["_law_head_here"] (defScope s__law_kept) := ⟨rfl, rfl, rfl, by decide +kernel, rfl, by decide +kernel, by decide +kernel⟩
/-! ### _law_kinds -/
def l_kinds (a_head_here : (Tp3 Int Int (List (Tp3 Int Int (List (Tp3 (Tp2 Int Int) (Option (Tp2 Int Int)) (Tp2 Int Int))))))) : Res Bool :=
  (if (isA "tuple" (enc a_head_here)) = true then (if (isA "list" (enc a_head_here.c)) = true then (compR (a_head_here.c) (() : Unit) (fun x20 (a24 : Unit) => ((if (isA "tuple" (enc x20)) = true then .ok (isA "list" (enc x20.c)) else .ok false) : Res (Bool)).bind fun a45 => .ok (some a45, ()))).bind <| un2 fun acc23 a24 => .ok (acc23.all id) else .ok false) else .ok false)
def sp__law_kinds (K : PySem.W.Frag) : Sp := fun vs H Q _ => ∃ (B : Hp) (v_head_here : V) (a_head_here : (Tp3 Int Int (List (Tp3 Int Int (List (Tp3 (Tp2 Int Int) (Option (Tp2 Int Int)) (Tp2 Int Int))))))), Ex B H ∧ vs = [v_head_here] ∧ Rep K B v_head_here (enc a_head_here) ∧ Post (l_kinds a_head_here) (fun r => Ret K [] B H (enc r) Q) (fun _ => False)
abbrev s__law_kinds : Stmt := top 60
theorem sc__law_kinds : FnScope ["_law_head_here", "_law_lane"] ["_law_head_here"] (defScope s__law_kinds) := ⟨rfl, rfl, rfl, by decide +kernel, rfl, by decide +kernel, by decide +kernel⟩
/-! ### law -/
def m_law (a_script : (List Int)) : Res Bool :=
  guardR (okEq (enc (⟨1, 2, 3⟩ : (Tp3 Int Int Int))) (enc (⟨1, 2, 3⟩ : (Tp3 Int Int Int)))) <| (if (!(eqD (enc (⟨1, 2, 3⟩ : (Tp3 Int Int Int))) (enc (⟨1, 2, 3⟩ : (Tp3 Int Int Int))))) = true then .ok false else guardR ((cutL a_script none (some 8)).length + ([0, 1] : List Int).length ≤ 1000000) <| (forR (((cutL a_script none (some 8)) ++ ([0, 1] : List Int))) (() : Unit) (fun x50 (a49 : Unit) => (l_head ([x50] : List Int)).bind fun x71 => (l_head_numbers x71.1).bind fun x77 => (l_all_figures x77).bind fun x83 => (forR (rngI 0 2) (() : Unit) (fun x98 (a97 : Unit) => (l_kept x71.1).bind fun x108 => ((m_head_body (enc x108)).noErr).bind fun x114 => (if (isA "list" (enc x114)) = true then guardR (okEq (enc x114) (enc x83)) <| (if (!(eqD (enc x114) (enc x83))) = true then .ok (.rt (.rt false)) else guardR (okEq (enc x108) (enc x71.1)) <| (if (!(eqD (enc x108) (enc x71.1))) = true then .ok (.rt (.rt false)) else ((m_read_head (enc x114)).noErr).bind fun x144 => guardR (okEq (enc x144) (enc x71.1)) <| (if (!(eqD (enc x144) (enc x71.1))) = true then .ok (.rt (.rt false)) else (l_kinds x144).bind fun x152 => (if x152 = true then guardR (okEq (enc x114) (enc x83)) <| (if (!(eqD (enc x114) (enc x83))) = true then .ok (.rt (.rt false)) else (ixR x144.c 0).bind fun x172 => guardR (x172.c.length < 1000000) <| guardR (x144.c.length < 1000000) <| guardR (x114.length < 1000000) <| (l_refused__read_head (enc (x114 ++ [0]))).bind fun x210 => (if x210 = true then (l_refused__read_head (enc (cutL x83 none (some (-1))))).bind fun x226 => (if x226 = true then .ok (.nx ()) else .ok (.rt (.rt false))) else .ok (.rt (.rt false)))) else .ok (.rt (.rt false)))))) else .ok (.rt (.rt false))))).bind (afterR fun a234 => (l_no_head x71.2 x71.1).bind fun x242 => (l_refused__head_body x242.1).bind fun x248 => (if x248 = true then (l_digit x242.2 7).bind fun x283 => (ixR ([(enc ()), (enc ("" : Str)), (.tup (x83.map enc) : D), (.dic [] : D), (enc (0 : Int)), (enc ([256] : List Int)), (enc ([()] : List Unit))] : List D) x283.1).bind fun x293 => (l_refused__read_head x293).bind fun x297 => (if x297 = true then .ok (.nx ()) else .ok (.rt false)) else .ok (.rt false))))).bind (afterR fun a303 => .ok true))
def sp_law (K : PySem.W.Frag) : Sp := fun vs H Q _ => ∃ (B : Hp) (v_script : V) (a_script : (List Int)), Ex B H ∧ vs = [v_script] ∧ Bor K B H [] v_script (a_script.map enc) ∧ Post (m_law a_script) (fun r => Ret K [] B H (enc r) Q) (fun _ => False)
abbrev s_law : Stmt := top 61
theorem sc_law : FnScope ["_law_script", "_law_cell", "_law_state", "_law_head_here", "_law_due", "_law_turn", "_law_handed", "_law_there", "_law_found"] ["_law_script"] (defScope s_law) := ⟨rfl, rfl, rfl, by decide +kernel, rfl, by decide +kernel, by decide +kernel⟩
section
variable {Pr : Program} {wo : World} {K : PySem.W.Frag} {mg : Str → Option Value} {base : Heap}
theorem ok_divisor {f : Addr} {fd : FuncData}  (F : Fun K "divisor" "divisor" s_divisor f fd) (bI_abs : mg "abs" = none) : FnOk Pr wo K mg base CX0 1 f fd ["one", "other"] (sp_divisor K) := by
  refine F.ok sc_divisor (fun vs H Q E h => ?_) (fun cdv A outer s H0 vs Q E hr h => ?_)
  · obtain ⟨_, _, _, _, rfl, _⟩ := h; rfl
  · obtain ⟨B0, a_one, a_other, w, rfl, P⟩ := h
    have w0 := w
    have hu := hu_of hr
    have hu64 := hu64_of hr
    have hu65 := hu65_of hr
    refine ⟨_, (pss_cons (ps_set (i := 0) sc_divisor.nd rfl (by first | exact Or.inl rfl | exact Or.inr rfl) (pe_callB cr_abs (by rfl) bI_abs PyProof.Rows.boot_abs (pa_cons (pv 0) pa_nil)))
      (pss_cons (ps_set (i := 1) sc_divisor.nd rfl (by first | exact Or.inl rfl | exact Or.inr rfl) (pe_callB cr_abs (by rfl) bI_abs PyProof.Rows.boot_abs (pa_cons (pv 1) pa_nil)))
      (pss_cons (ps_while PassesOwn.never (pt_cmpR op_gt (pv 1) pe_int (nomark _)) (pss_one (ps_par rfl sc_divisor.nd (i := 0) (j := 1) rfl rfl (by decide) rfl rfl (pa_cons (pv 1) (pa_cons (pe_op op_mod (pv 0) (pv 1)) pa_nil)) rfl)))
      (pss_one (ps_ret (pv 0)))))), ?_⟩
    unfold m_divisor at P
    have st := Stp.refl (W := []) w
    refine h_set ?_
    refine h_cb ?_
    refine h_cons ?_
    refine h_var rfl ?_
    refine h_nil ?_
    refine h_abs ?_
    replace P := P.lt
    generalize hx : (absI a_one) = x1 at P ⊢
    refine h_set ?_
    refine h_cb ?_
    refine h_cons ?_
    refine h_var rfl ?_
    refine h_nil ?_
    refine h_abs ?_
    replace P := P.lt
    generalize hx : (absI a_other) = x2 at P ⊢
    refine h_seq ?_
    have wj4 := w
    have sj3 := Stp.refl (W := []) w
    refine h_while P (fun (a : Int × Int) σ' H' => ∃ (B' : Hp), Stp [] B0 H0 B' H' ∧ σ' = [some (.int a.1), some (.int a.2)]) ⟨_, sj3, rfl⟩ ?_ ?_
    · rintro N5 C6 T7 a12 _ H14 ⟨B13, s15, rfl⟩ kn8 kk9 kr10 kb11 P
      replace st := st.go s15 go0
      replace w := s15.ok
      have sj3 := s15
      refine h_test ?_
      refine h_op ?_
      refine h_var rfl ?_
      refine h_c ?_
      refine h_I0 ?_
      refine h_bl ?_
      refine h_ite (fun c1 => ?_) (fun c1 => ?_)
      · replace P := P.iteT c1
        refine ⟨N5, kn8, ?_⟩
        refine h_par ?_
        refine h_cons ?_
        refine h_var rfl ?_
        refine h_cons ?_
        refine h_op ?_
        refine h_var rfl ?_
        refine h_var rfl ?_
        obtain ⟨gd, P⟩ := P.guard
        refine h_I gd ?_
        refine h_nil ?_
        refine h_two ?_
        replace P := P.lt
        generalize hx : (a12.1 % a12.2) = x16 at P ⊢
        refine h_nx ?_
        exact kk9 (a12.2, x16) _ _ ⟨_, sj3, rfl⟩ P.ok
      · replace P := P.iteF c1
        exact kb11 (a12.1, a12.2) _ _ ⟨_, sj3, rfl⟩ P.ok
    · rintro a17 _ H19 ⟨B18, s20, rfl⟩ P
      replace st := st.go s20 go0
      replace w := s20.ok
      refine h_nx ?_
      refine h_ret ?_
      refine h_var rfl ?_
      exact P.ok _ _ _ st (Rep.int _)
theorem ok_is_number {f : Addr} {fd : FuncData}  (F : Fun K "is_number" "is_number" s_is_number f fd) (bI_isinstance : mg "isinstance" = none) (bI_int : mg "int" = none) (bI_bool : mg "bool" = none) : FnOk Pr wo K mg base CX0 1 f fd ["thing"] (sp_is_number K) := by
  refine F.ok sc_is_number (fun vs H Q E h => ?_) (fun cdv A outer s H0 vs Q E hr h => ?_)
  · obtain ⟨_, _, _, _, rfl, _⟩ := h; rfl
  · obtain ⟨B0, v_thing, a_thing, w, rfl, r_thing, P⟩ := h
    have w0 := w
    have hu := hu_of hr
    have hu64 := hu64_of hr
    have hu65 := hu65_of hr
    refine ⟨_, (pss_one (ps_ret (pe_and (pe_callB (r := rIsi K) call_isi (by rfl) bI_isinstance PyProof.Rows.boot_isinstance (pa_cons (pv 0) (pa_cons (pe_bltn (v := .ty "int") (by rfl) bI_int Y.boot_int rfl) pa_nil))) (pe_one (pe_not (pe_callB (r := rIsi K) call_isi (by rfl) bI_isinstance PyProof.Rows.boot_isinstance (pa_cons (pv 0) (pa_cons (pe_bltn (v := .ty "bool") (by rfl) bI_bool Y.boot_bool rfl) pa_nil)))))))), ?_⟩
    unfold m_is_number at P
    have st := Stp.refl (W := []) w
    refine h_ret ?_
    refine h_and ?_
    refine h_cb ?_
    refine h_cons ?_
    refine h_var rfl ?_
    refine h_cons ?_
    refine h_c ?_
    refine h_nil ?_
    refine isi (t := "int") w (r_thing.mono st.ex) ?_
    refine h_bl ?_
    refine h_ite (fun c1 => ?_) (fun c1 => ?_)
    · replace P := P.iteT c1
      refine h_not ?_
      refine h_cb ?_
      refine h_cons ?_
      refine h_var rfl ?_
      refine h_cons ?_
      refine h_c ?_
      refine h_nil ?_
      refine isi (t := "bool") w (r_thing.mono st.ex) ?_
      refine h_bl ?_
      exact P.ok _ _ _ st (Rep.bl _)
    · replace P := P.iteF c1
      exact P.ok _ _ _ st (Rep.bl _)
theorem ok_is_fraction {f : Addr} {fd : FuncData}  (F : Fun K "is_fraction" "is_fraction" s_is_fraction f fd) {f_divisor : Addr} {d_divisor : FuncData} (g_divisor : mg "divisor" = some (.ref f_divisor)) (k_divisor : PySem.W.keepIn K (.ref f_divisor) = true) (b_divisor : L2.Binds K d_divisor ["one", "other"] []) (G_divisor : FnOk Pr wo K mg base CX0 1 f_divisor d_divisor ["one", "other"] (sp_divisor K)) {f_is_number : Addr} {d_is_number : FuncData} (g_is_number : mg "is_number" = some (.ref f_is_number)) (k_is_number : PySem.W.keepIn K (.ref f_is_number) = true) (b_is_number : L2.Binds K d_is_number ["thing"] []) (G_is_number : FnOk Pr wo K mg base CX0 1 f_is_number d_is_number ["thing"] (sp_is_number K)) (bI_isinstance : mg "isinstance" = none) (bI_tuple : mg "tuple" = none) (bI_len : mg "len" = none) : FnOk Pr wo K mg base CX0 2 f fd ["thing"] (sp_is_fraction K) := by
  refine F.ok sc_is_fraction (fun vs H Q E h => ?_) (fun cdv A outer s H0 vs Q E hr h => ?_)
  · obtain ⟨_, _, _, _, rfl, _⟩ := h; rfl
  · obtain ⟨B0, v_thing, a_thing, w, rfl, r_thing, P⟩ := h
    have w0 := w
    have hu := hu_of hr
    have hu64 := hu64_of hr
    have hu65 := hu65_of hr
    have hr1 : Room 1 _ := hr.mono (by decide)
    refine ⟨_, (pss_cons (ps_if (PW.pt (pw_or (pt_not (pt_val (pe_callB (r := rIsi K) call_isi (by rfl) bI_isinstance PyProof.Rows.boot_isinstance (pa_cons (pv 0) (pa_cons (pe_bltn (v := .ty "tuple") (by rfl) bI_tuple Y.boot_tuple rfl) pa_nil))))) (pw_or1 (pt_cmpR op_ne (pe_callB (r := rLenY K) cr_len (by rfl) bI_len PySem.boot_len (pa_cons (pv 0) pa_nil)) pe_int (nomark _))))) (pss_one (ps_ret pe_bl)) pss_nil)
      (pss_cons (ps_asg (pv 0) (pg_tupK (K := K) (n := 2) rfl rfl (pgs_cons (pg_name (i := 1) sc_is_fraction.nd rfl (by first | exact Or.inl rfl | exact Or.inr rfl)) (pgs_cons (pg_name (i := 2) sc_is_fraction.nd rfl (by first | exact Or.inl rfl | exact Or.inr rfl)) pgs_nil))))
      (pss_cons (ps_if (PW.pt (pw_or (pt_not (pt_val (pe_call G_is_number hr1 rfl g_is_number k_is_number b_is_number .nil pass0 (pa_cons (pv 1) pa_nil)))) (pw_or (pt_not (pt_val (pe_call G_is_number hr1 rfl g_is_number k_is_number b_is_number .nil pass0 (pa_cons (pv 2) pa_nil)))) (pw_or1 (pt_cmpR op_lt (pv 2) pe_int (nomark _)))))) (pss_one (ps_ret pe_bl)) pss_nil)
      (pss_one (ps_ret (pe_cmpR op_eq (pe_call G_divisor hr1 rfl g_divisor k_divisor b_divisor .nil pass0 (pa_cons (pv 1) (pa_cons (pv 2) pa_nil))) pe_int (nomark _))))))), ?_⟩
    unfold m_is_fraction at P
    have st := Stp.refl (W := []) w
    refine h_seq <| h_if ?_
    refine h_tor ?_
    refine h_tnot ?_
    refine h_tB ?_
    refine h_cb ?_
    refine h_cons ?_
    refine h_var rfl ?_
    refine h_cons ?_
    refine h_c ?_
    refine h_nil ?_
    refine isi (t := "tuple") w (r_thing.mono st.ex) ?_
    refine h_bl ?_
    refine h_iteN (fun c1 => ?_) (fun c1 => ?_)
    · replace P := P.iteF c1
      refine h_iteT ?_
      refine h_ret ?_
      refine h_c ?_
      exact P.ok _ _ _ st (Rep.bl _)
    · replace P := P.iteT c1
      refine h_test ?_
      refine h_op ?_
      refine h_cb ?_
      refine h_cons ?_
      refine h_var rfl ?_
      refine h_nil ?_
      obtain ⟨l1, hl2, P⟩ := P.asT
      have rc3 := (r_thing.mono st.ex)
      rw [hl2] at rc3
      obtain ⟨p4, xs5, rfl, hs6, hr7⟩ := Rep.st w rc3
      refine h_lenTl hs6 hr7 ?_
      refine h_c ?_
      refine h_neI ?_
      refine h_bl ?_
      refine h_ite (fun c1 => ?_) (fun c1 => ?_)
      · replace P := P.iteT c1
        refine h_ret ?_
        refine h_c ?_
        exact P.ok _ _ _ st (Rep.bl _)
      · replace P := P.iteF c1
        refine h_next ?_
        refine h_nx ?_
        refine h_seq ?_
        refine h_asg ?_
        refine h_var rfl ?_
        obtain ⟨l8, hl9, P⟩ := P.asT
        have rc10 := (r_thing.mono st.ex)
        rw [hl9] at rc10
        obtain ⟨p11, xs12, hv, hs13, hr14⟩ := Rep.st w rc10
        cases hv
        obtain ⟨gd, P⟩ := P.guard
        refine h_tupG hs13 (by rw [hr14.length, List.length_map]; exact gd) ?_
        obtain ⟨x16, hx17, P⟩ := P.ix
        obtain ⟨u18, huu18, r19⟩ := RepL.atE hr14 hx17
        obtain ⟨x20, hx21, P⟩ := P.ix
        obtain ⟨u22, huu22, r23⟩ := RepL.atE hr14 hx21
        obtain rfl : xs12 = [u18, u22] := tup2 (by rw [hr14.length, List.length_map]; exact gd) huu18 huu22
        refine h_gcons ?_
        refine h_gname ?_
        refine h_gcons ?_
        refine h_gname ?_
        refine h_gnil ?_
        refine h_nx ?_
        refine h_seq <| h_if ?_
        refine h_tor ?_
        refine h_tnot ?_
        refine h_tB ?_
        refine h_call ?_
        refine h_cons ?_
        refine h_var rfl ?_
        refine h_nil ?_
        refine ⟨B0, u18, x16, w, rfl, r19, (P.bind).mono (fun x24 P => ?_) (fun _ z => z)⟩
        refine fun v28 B25 H26 s27 r29 => ?_
        replace r19 := r19.mono s27.ex
        replace r23 := r23.mono s27.ex
        replace st := st.go s27 go0
        replace w := s27.ok
        cases r29
        refine h_bl ?_
        refine h_iteN (fun c1 => ?_) (fun c1 => ?_)
        · replace P := P.iteF c1
          refine h_iteT ?_
          refine h_ret ?_
          refine h_c ?_
          exact P.ok _ _ _ st (Rep.bl _)
        · replace P := P.iteT c1
          refine h_tor ?_
          refine h_tnot ?_
          refine h_tB ?_
          refine h_call ?_
          refine h_cons ?_
          refine h_var rfl ?_
          refine h_nil ?_
          refine ⟨B25, u22, x20, w, rfl, r23, (P.bind).mono (fun x30 P => ?_) (fun _ z => z)⟩
          refine fun v34 B31 H32 s33 r35 => ?_
          replace r19 := r19.mono s33.ex
          replace r23 := r23.mono s33.ex
          replace st := st.go s33 go0
          replace w := s33.ok
          cases r35
          refine h_bl ?_
          refine h_iteN (fun c1 => ?_) (fun c1 => ?_)
          · replace P := P.iteF c1
            refine h_iteT ?_
            refine h_ret ?_
            refine h_c ?_
            exact P.ok _ _ _ st (Rep.bl _)
          · replace P := P.iteT c1
            refine h_test ?_
            refine h_op ?_
            refine h_var rfl ?_
            refine h_c ?_
            obtain ⟨i36, hi37, P⟩ := P.asI
            have rc38 := r23
            rw [hi37] at rc38
            cases rc38
            refine h_I0 ?_
            refine h_bl ?_
            refine h_ite (fun c1 => ?_) (fun c1 => ?_)
            · replace P := P.iteT c1
              refine h_ret ?_
              refine h_c ?_
              exact P.ok _ _ _ st (Rep.bl _)
            · replace P := P.iteF c1
              refine h_next ?_
              refine h_nx ?_
              refine h_ret ?_
              refine h_op ?_
              refine h_call ?_
              refine h_cons ?_
              refine h_var rfl ?_
              refine h_cons ?_
              refine h_var rfl ?_
              refine h_nil ?_
              obtain ⟨i39, hi40, P⟩ := P.asI
              have rc41 := r19
              rw [hi40] at rc41
              cases rc41
              refine ⟨B31, i39, i36, w, rfl, (P.bind).mono (fun x42 P => ?_) (fun _ z => z)⟩
              refine fun v46 B43 H44 s45 r47 => ?_
              replace r19 := r19.mono s45.ex
              replace r23 := r23.mono s45.ex
              replace st := st.go s45 go0
              replace w := s45.ok
              cases r47
              refine h_c ?_
              refine h_eqI ?_
              exact P.ok _ _ _ st (Rep.bl _)
theorem ok_is_moment {f : Addr} {fd : FuncData}  (F : Fun K "is_moment" "is_moment" s_is_moment f fd) {f_is_fraction : Addr} {d_is_fraction : FuncData} (g_is_fraction : mg "is_fraction" = some (.ref f_is_fraction)) (k_is_fraction : PySem.W.keepIn K (.ref f_is_fraction) = true) (b_is_fraction : L2.Binds K d_is_fraction ["thing"] []) (G_is_fraction : FnOk Pr wo K mg base CX0 2 f_is_fraction d_is_fraction ["thing"] (sp_is_fraction K)) : FnOk Pr wo K mg base CX0 3 f fd ["thing"] (sp_is_moment K) := by
  refine F.ok sc_is_moment (fun vs H Q E h => ?_) (fun cdv A outer s H0 vs Q E hr h => ?_)
  · obtain ⟨_, _, _, _, rfl, _⟩ := h; rfl
  · obtain ⟨B0, v_thing, a_thing, w, rfl, r_thing, P⟩ := h
    have w0 := w
    have hu := hu_of hr
    have hu64 := hu64_of hr
    have hu65 := hu65_of hr
    have hr2 : Room 2 _ := hr.mono (by decide)
    refine ⟨_, (pss_one (ps_ret (pe_and (pe_call G_is_fraction hr2 rfl g_is_fraction k_is_fraction b_is_fraction .nil pass0 (pa_cons (pv 0) pa_nil)) (pe_one (pe_cmpR op_ge (pe_ix (r := rIxT K) ix_tup (pv 0) pe_int (fun _ _ => rfl)) pe_int (nomark _)))))), ?_⟩
    unfold m_is_moment at P
    have st := Stp.refl (W := []) w
    refine h_ret ?_
    refine h_and ?_
    refine h_call ?_
    refine h_cons ?_
    refine h_var rfl ?_
    refine h_nil ?_
    refine ⟨B0, v_thing, a_thing, w, rfl, (r_thing.mono st.ex), (P.bind).mono (fun x1 P => ?_) (fun _ z => z)⟩
    refine fun v5 B2 H3 s4 r6 => ?_
    replace st := st.go s4 go0
    replace w := s4.ok
    cases r6
    refine h_bl ?_
    refine h_ite (fun c1 => ?_) (fun c1 => ?_)
    · replace P := P.iteT c1
      refine h_op ?_
      refine h_op ?_
      refine h_var rfl ?_
      refine h_c ?_
      obtain ⟨l7, hl8, P⟩ := P.asT
      have rc9 := (r_thing.mono st.ex)
      rw [hl8] at rc9
      obtain ⟨p10, xs11, rfl, hs12, hr13⟩ := Rep.st w rc9
      obtain ⟨x14, hx15, P⟩ := P.ix
      obtain ⟨u16, hu, r17⟩ := RepL.atE hr13 hx15
      refine h_ixT hs12 hu ?_
      refine h_c ?_
      obtain ⟨i18, hi19, P⟩ := P.asI
      have rc20 := r17
      rw [hi19] at rc20
      cases rc20
      refine h_I0 ?_
      exact P.ok _ _ _ st (Rep.bl _)
    · replace P := P.iteF c1
      exact P.ok _ _ _ st (Rep.bl _)
theorem ok_less {f : Addr} {fd : FuncData}  (F : Fun K "less" "less" s_less f fd)  : FnOk Pr wo K mg base CX0 1 f fd ["one", "other"] (sp_less K) := by
  refine F.ok sc_less (fun vs H Q E h => ?_) (fun cdv A outer s H0 vs Q E hr h => ?_)
  · obtain ⟨_, _, _, _, _, _, rfl, _⟩ := h; rfl
  · obtain ⟨B0, v_one, a_one, v_other, a_other, w, rfl, r_one, r_other, P⟩ := h
    have w0 := w
    have hu := hu_of hr
    have hu64 := hu64_of hr
    have hu65 := hu65_of hr
    refine ⟨_, (pss_one (ps_ret (pe_cmpR op_lt (pe_op op_mulW (pe_ix (r := rIxT K) ix_tup (pv 0) pe_int (fun _ _ => rfl)) (pe_ix (r := rIxT K) ix_tup (pv 1) pe_int (fun _ _ => rfl))) (pe_op op_mulW (pe_ix (r := rIxT K) ix_tup (pv 1) pe_int (fun _ _ => rfl)) (pe_ix (r := rIxT K) ix_tup (pv 0) pe_int (fun _ _ => rfl))) (nomark _)))), ?_⟩
    unfold m_less at P
    have st := Stp.refl (W := []) w
    refine h_ret ?_
    refine h_op ?_
    refine h_op ?_
    refine h_op ?_
    refine h_var rfl ?_
    refine h_c ?_
    obtain ⟨p1, xs2, rfl, hs3, hr4⟩ := Rep.st w (r_one.mono st.ex)
    obtain ⟨u5, hu, r6⟩ := RepL.at hr4 (i := 0) rfl
    refine h_ixT hs3 hu ?_
    cases r6
    refine h_op ?_
    refine h_var rfl ?_
    refine h_c ?_
    obtain ⟨p7, xs8, rfl, hs9, hr10⟩ := Rep.st w (r_other.mono st.ex)
    obtain ⟨u11, hu, r12⟩ := RepL.at hr10 (i := 1) rfl
    refine h_ixT hs9 hu ?_
    cases r12
    obtain ⟨gd, P⟩ := P.guard
    refine h_I gd ?_
    refine h_op ?_
    refine h_op ?_
    refine h_var rfl ?_
    refine h_c ?_
    obtain ⟨p13, xs14, hv, hs15, hr16⟩ := Rep.st w (r_other.mono st.ex)
    cases hv
    obtain ⟨u17, hu, r18⟩ := RepL.at hr16 (i := 0) rfl
    refine h_ixT hs15 hu ?_
    cases r18
    refine h_op ?_
    refine h_var rfl ?_
    refine h_c ?_
    obtain ⟨p19, xs20, hv, hs21, hr22⟩ := Rep.st w (r_one.mono st.ex)
    cases hv
    obtain ⟨u23, hu, r24⟩ := RepL.at hr22 (i := 1) rfl
    refine h_ixT hs21 hu ?_
    cases r24
    obtain ⟨gd, P⟩ := P.guard
    refine h_I gd ?_
    refine h_I0 ?_
    exact P.ok _ _ _ st (Rep.bl _)
theorem ok_is_edit {f : Addr} {fd : FuncData}  (F : Fun K "is_edit" "is_edit" s_is_edit f fd) {C_NOUGHT : Addr} (c_NOUGHT : CT K mg "NOUGHT" C_NOUGHT (⟨0, 1⟩ : (Tp2 Int Int))) {f_is_moment : Addr} {d_is_moment : FuncData} (g_is_moment : mg "is_moment" = some (.ref f_is_moment)) (k_is_moment : PySem.W.keepIn K (.ref f_is_moment) = true) (b_is_moment : L2.Binds K d_is_moment ["thing"] []) (G_is_moment : FnOk Pr wo K mg base CX0 3 f_is_moment d_is_moment ["thing"] (sp_is_moment K)) {f_is_fraction : Addr} {d_is_fraction : FuncData} (g_is_fraction : mg "is_fraction" = some (.ref f_is_fraction)) (k_is_fraction : PySem.W.keepIn K (.ref f_is_fraction) = true) (b_is_fraction : L2.Binds K d_is_fraction ["thing"] []) (G_is_fraction : FnOk Pr wo K mg base CX0 2 f_is_fraction d_is_fraction ["thing"] (sp_is_fraction K)) {f_less : Addr} {d_less : FuncData} (g_less : mg "less" = some (.ref f_less)) (k_less : PySem.W.keepIn K (.ref f_less) = true) (b_less : L2.Binds K d_less ["one", "other"] []) (G_less : FnOk Pr wo K mg base CX0 1 f_less d_less ["one", "other"] (sp_less K)) (bI_isinstance : mg "isinstance" = none) (bI_tuple : mg "tuple" = none) (bI_len : mg "len" = none) : FnOk Pr wo K mg base CX0 4 f fd ["thing"] (sp_is_edit K) := by
  refine F.ok sc_is_edit (fun vs H Q E h => ?_) (fun cdv A outer s H0 vs Q E hr h => ?_)
  · obtain ⟨_, _, _, _, rfl, _⟩ := h; rfl
  · obtain ⟨B0, v_thing, a_thing, w, rfl, r_thing, P⟩ := h
    have w0 := w
    have hu := hu_of hr
    have hu64 := hu64_of hr
    have hu65 := hu65_of hr
    have hr1 : Room 1 _ := hr.mono (by decide)
    have hr2 : Room 2 _ := hr.mono (by decide)
    have hr3 : Room 3 _ := hr.mono (by decide)
    refine ⟨_, (pss_cons (ps_if (PW.pt (pw_or (pt_not (pt_val (pe_callB (r := rIsi K) call_isi (by rfl) bI_isinstance PyProof.Rows.boot_isinstance (pa_cons (pv 0) (pa_cons (pe_bltn (v := .ty "tuple") (by rfl) bI_tuple Y.boot_tuple rfl) pa_nil))))) (pw_or1 (pt_cmpR op_ne (pe_callB (r := rLenY K) cr_len (by rfl) bI_len PySem.boot_len (pa_cons (pv 0) pa_nil)) pe_int (nomark _))))) (pss_one (ps_ret pe_bl)) pss_nil)
      (pss_cons (ps_asg (pv 0) (pg_tupK (K := K) (n := 3) rfl rfl (pgs_cons (pg_name (i := 1) sc_is_edit.nd rfl (by first | exact Or.inl rfl | exact Or.inr rfl)) (pgs_cons (pg_name (i := 2) sc_is_edit.nd rfl (by first | exact Or.inl rfl | exact Or.inr rfl)) (pgs_cons (pg_name (i := 3) sc_is_edit.nd rfl (by first | exact Or.inl rfl | exact Or.inr rfl)) pgs_nil)))))
      (pss_cons (ps_if (PW.pt (pw_or (pt_not (pt_val (pe_call G_is_fraction hr2 rfl g_is_fraction k_is_fraction b_is_fraction .nil pass0 (pa_cons (pv 1) pa_nil)))) (pw_or (pt_not (pt_val (pe_call G_less hr1 rfl g_less k_less b_less .nil pass0 (pa_cons (pe_glob (v := .ref C_NOUGHT) (by rfl) c_NOUGHT.g rfl) (pa_cons (pv 1) pa_nil))))) (pw_or1 (pt_not (pt_val (pe_call G_is_moment hr3 rfl g_is_moment k_is_moment b_is_moment .nil pass0 (pa_cons (pv 3) pa_nil)))))))) (pss_one (ps_ret pe_bl)) pss_nil)
      (pss_cons (ps_if (pt_cmpR op_isNn (pv 2) pe_non (nomark _)) (pss_one (ps_ret (pe_cmpR (r := rEqD K) (op_eqD hu64) (pv 3) (pe_glob (v := .ref C_NOUGHT) (by rfl) c_NOUGHT.g rfl) (nomark _)))) pss_nil)
      (pss_one (ps_ret (pe_call G_is_moment hr3 rfl g_is_moment k_is_moment b_is_moment .nil pass0 (pa_cons (pv 2) pa_nil)))))))), ?_⟩
    unfold m_is_edit at P
    have st := Stp.refl (W := []) w
    refine h_seq <| h_if ?_
    refine h_tor ?_
    refine h_tnot ?_
    refine h_tB ?_
    refine h_cb ?_
    refine h_cons ?_
    refine h_var rfl ?_
    refine h_cons ?_
    refine h_c ?_
    refine h_nil ?_
    refine isi (t := "tuple") w (r_thing.mono st.ex) ?_
    refine h_bl ?_
    refine h_iteN (fun c1 => ?_) (fun c1 => ?_)
    · replace P := P.iteF c1
      refine h_iteT ?_
      refine h_ret ?_
      refine h_c ?_
      exact P.ok _ _ _ st (Rep.bl _)
    · replace P := P.iteT c1
      refine h_test ?_
      refine h_op ?_
      refine h_cb ?_
      refine h_cons ?_
      refine h_var rfl ?_
      refine h_nil ?_
      obtain ⟨l1, hl2, P⟩ := P.asT
      have rc3 := (r_thing.mono st.ex)
      rw [hl2] at rc3
      obtain ⟨p4, xs5, rfl, hs6, hr7⟩ := Rep.st w rc3
      refine h_lenTl hs6 hr7 ?_
      refine h_c ?_
      refine h_neI ?_
      refine h_bl ?_
      refine h_ite (fun c1 => ?_) (fun c1 => ?_)
      · replace P := P.iteT c1
        refine h_ret ?_
        refine h_c ?_
        exact P.ok _ _ _ st (Rep.bl _)
      · replace P := P.iteF c1
        refine h_next ?_
        refine h_nx ?_
        refine h_seq ?_
        refine h_asg ?_
        refine h_var rfl ?_
        obtain ⟨l8, hl9, P⟩ := P.asT
        have rc10 := (r_thing.mono st.ex)
        rw [hl9] at rc10
        obtain ⟨p11, xs12, hv, hs13, hr14⟩ := Rep.st w rc10
        cases hv
        obtain ⟨gd, P⟩ := P.guard
        refine h_tupG hs13 (by rw [hr14.length, List.length_map]; exact gd) ?_
        obtain ⟨x16, hx17, P⟩ := P.ix
        obtain ⟨u18, huu18, r19⟩ := RepL.atE hr14 hx17
        obtain ⟨x20, hx21, P⟩ := P.ix
        obtain ⟨u22, huu22, r23⟩ := RepL.atE hr14 hx21
        obtain ⟨x24, hx25, P⟩ := P.ix
        obtain ⟨u26, huu26, r27⟩ := RepL.atE hr14 hx25
        obtain rfl : xs12 = [u18, u22, u26] := tup3 (by rw [hr14.length, List.length_map]; exact gd) huu18 huu22 huu26
        refine h_gcons ?_
        refine h_gname ?_
        refine h_gcons ?_
        refine h_gname ?_
        refine h_gcons ?_
        refine h_gname ?_
        refine h_gnil ?_
        refine h_nx ?_
        refine h_seq <| h_if ?_
        refine h_tor ?_
        refine h_tnot ?_
        refine h_tB ?_
        refine h_call ?_
        refine h_cons ?_
        refine h_var rfl ?_
        refine h_nil ?_
        refine ⟨B0, u18, x16, w, rfl, r19, (P.bind).mono (fun x28 P => ?_) (fun _ z => z)⟩
        refine fun v32 B29 H30 s31 r33 => ?_
        replace r19 := r19.mono s31.ex
        replace r23 := r23.mono s31.ex
        replace r27 := r27.mono s31.ex
        replace st := st.go s31 go0
        replace w := s31.ok
        cases r33
        refine h_bl ?_
        refine h_iteN (fun c1 => ?_) (fun c1 => ?_)
        · replace P := P.iteF c1
          refine h_iteT ?_
          refine h_ret ?_
          refine h_c ?_
          exact P.ok _ _ _ st (Rep.bl _)
        · replace P := P.iteT c1
          refine h_tor ?_
          refine h_tnot ?_
          refine h_tB ?_
          refine h_call ?_
          refine h_cons ?_
          refine h_c ?_
          have r34 := c_NOUGHT.rep B29
          refine h_cons ?_
          refine h_var rfl ?_
          refine h_nil ?_
          obtain ⟨x35, hx36, P⟩ := P.asD
          have rc37 := r19
          rw [hx36] at rc37
          refine ⟨B29, (.ref C_NOUGHT), (⟨0, 1⟩ : (Tp2 Int Int)), u18, x35, w, rfl, r34, rc37, (P.bind).mono (fun x38 P => ?_) (fun _ z => z)⟩
          refine fun v42 B39 H40 s41 r43 => ?_
          replace r19 := r19.mono s41.ex
          replace r23 := r23.mono s41.ex
          replace r27 := r27.mono s41.ex
          replace r34 := r34.mono s41.ex
          replace st := st.go s41 go0
          replace w := s41.ok
          cases r43
          refine h_bl ?_
          refine h_iteN (fun c1 => ?_) (fun c1 => ?_)
          · replace P := P.iteF c1
            refine h_iteT ?_
            refine h_ret ?_
            refine h_c ?_
            exact P.ok _ _ _ st (Rep.bl _)
          · replace P := P.iteT c1
            refine h_tnot ?_
            refine h_tB ?_
            refine h_call ?_
            refine h_cons ?_
            refine h_var rfl ?_
            refine h_nil ?_
            refine ⟨B39, u26, x24, w, rfl, r27, (P.bind).mono (fun x44 P => ?_) (fun _ z => z)⟩
            refine fun v48 B45 H46 s47 r49 => ?_
            replace r19 := r19.mono s47.ex
            replace r23 := r23.mono s47.ex
            replace r27 := r27.mono s47.ex
            replace st := st.go s47 go0
            replace w := s47.ok
            cases r49
            refine h_bl ?_
            refine h_iteN (fun c1 => ?_) (fun c1 => ?_)
            · replace P := P.iteF c1
              refine h_ret ?_
              refine h_c ?_
              exact P.ok _ _ _ st (Rep.bl _)
            · replace P := P.iteT c1
              refine h_next ?_
              refine h_nx ?_
              refine h_seq <| h_if ?_
              refine h_test ?_
              refine h_op ?_
              refine h_var rfl ?_
              refine h_c ?_
              refine h_isN r23 ?_
              refine h_bl ?_
              refine h_ite (fun c1 => ?_) (fun c1 => ?_)
              · replace P := P.iteT c1
                refine h_ret ?_
                refine h_op ?_
                refine h_var rfl ?_
                refine h_c ?_
                have r50 := c_NOUGHT.rep B45
                obtain ⟨gd, P⟩ := P.guard
                refine h_eqD (d := x24) (e := (enc (⟨0, 1⟩ : (Tp2 Int Int)))) w r27 r50 gd ?_
                exact P.ok _ _ _ st (Rep.bl _)
              · replace P := P.iteF c1
                refine h_next ?_
                refine h_nx ?_
                refine h_ret ?_
                refine h_call ?_
                refine h_cons ?_
                refine h_var rfl ?_
                refine h_nil ?_
                refine ⟨B45, u22, x20, w, rfl, r23, (P.bind).mono (fun x51 P => ?_) (fun _ z => z)⟩
                refine fun v55 B52 H53 s54 r56 => ?_
                replace r19 := r19.mono s54.ex
                replace r23 := r23.mono s54.ex
                replace r27 := r27.mono s54.ex
                replace st := st.go s54 go0
                replace w := s54.ok
                cases r56
                exact P.ok _ _ _ st (Rep.bl _)
theorem ok_is_edits {f : Addr} {fd : FuncData}  (F : Fun K "is_edits" "is_edits" s_is_edits f fd) {f_is_edit : Addr} {d_is_edit : FuncData} (g_is_edit : mg "is_edit" = some (.ref f_is_edit)) (k_is_edit : PySem.W.keepIn K (.ref f_is_edit) = true) (b_is_edit : L2.Binds K d_is_edit ["thing"] []) (G_is_edit : FnOk Pr wo K mg base CX0 4 f_is_edit d_is_edit ["thing"] (sp_is_edit K)) (bI_isinstance : mg "isinstance" = none) (bI_list : mg "list" = none) (bI_all : mg "all" = none) : FnOk Pr wo K mg base CX0 5 f fd ["thing"] (sp_is_edits K) := by
  refine F.ok sc_is_edits (fun vs H Q E h => ?_) (fun cdv A outer s H0 vs Q E hr h => ?_)
  · obtain ⟨_, _, _, _, rfl, _⟩ := h; rfl
  · obtain ⟨B0, v_thing, a_thing, w, rfl, r_thing, P⟩ := h
    have w0 := w
    have hu := hu_of hr
    have hu64 := hu64_of hr
    have hu65 := hu65_of hr
    have hr4 : Room 4 _ := hr.mono (by decide)
    refine ⟨_, (pss_one (ps_ret (pe_and (pe_callB (r := rIsi K) call_isi (by rfl) bI_isinstance PyProof.Rows.boot_isinstance (pa_cons (pv 0) (pa_cons (pe_bltn (v := .ty "list") (by rfl) bI_list Y.boot_list rfl) pa_nil))) (pe_one (pe_callB (r := rAll K) (cr_all rfl) (by rfl) bI_all PyProof.Rows.boot_all (pa_cons (pe_lc (own := [("edit", 1)]) rfl sc_is_edits.nd (pi_list (pv 0)) (blkOk_by (N := ["thing", "edit"]) (sc := defScope s_is_edits) (by decide +kernel)) (fun _ _ _ _ _ => (pg_name (i := 1) sc_is_edits.nd rfl (by first | exact Or.inl rfl | exact Or.inr rfl))) (fun _ _ _ _ _ => pts_nil) (fun _ _ _ _ _ => (pe_call G_is_edit hr4 rfl g_is_edit k_is_edit b_is_edit .nil pass0 (pa_cons (pv 1) pa_nil)))) pa_nil)))))), ?_⟩
    unfold m_is_edits at P
    have st := Stp.refl (W := []) w
    refine h_ret ?_
    refine h_and ?_
    refine h_cb ?_
    refine h_cons ?_
    refine h_var rfl ?_
    refine h_cons ?_
    refine h_c ?_
    refine h_nil ?_
    refine isi (t := "list") w (r_thing.mono st.ex) ?_
    refine h_bl ?_
    refine h_ite (fun c1 => ?_) (fun c1 => ?_)
    · replace P := P.iteT c1
      refine h_cb ?_
      refine h_cons ?_
      refine h_lcE ?_
      refine h_var rfl ?_
      obtain ⟨l1, hl2, P⟩ := P.asL
      have rc3 := (r_thing.mono st.ex)
      rw [hl2] at rc3
      obtain ⟨p4, xs5, rfl, hb6, hr7⟩ := Rep.sqB rc3
      refine h_lcL P (w.l hb6) hr7 (fun Dl (acc : List Bool) (a : Unit) H' => ∃ B', Stp [] B0 H0 B' H' ∧ H0 Dl = none ∧ Mu K B' H' Dl (acc.map enc)) (fun Dl hD => ⟨_, Stp.newM w hD, hD, Mu.new w hD .nil⟩) (fun _ _ _ _ j => ?_) ?_ ?_
      · obtain ⟨B17, s18, hD19, m20⟩ := j
        exact s18.ok.l (s18.ex.l hb6)
      · rintro Dl8 N9 T10 x11 v12 acc14 a15 H16 ⟨B17, s18, hD19, m20⟩ r13 hz21 kk22 kn23 P
        have wj25 := w
        have sj24 := s18
        have n26 := st.nn hD19
        replace st := st.go s18 go0
        replace w := s18.ok
        replace r13 := r13.mono s18.ex
        refine h_gname ?_
        refine h_lcT rfl ?_
        refine h_call ?_
        refine h_cons ?_
        refine h_var rfl ?_
        refine h_nil ?_
        refine ⟨B17, v12, x11, w, rfl, r13, (P.bind).mono (fun x27 P => ?_) (fun _ z => z)⟩
        refine fun v31 B28 H29 s30 r32 => ?_
        replace r13 := r13.mono s30.ex
        replace m20 := m20.step s30 nm0
        replace st := st.go s30 go0
        replace sj24 := sj24.go s30 go0
        replace w := s30.ok
        cases r32
        refine h_app (b := x27) w m20 (Rep.bl _) hz21 (fun H33 s34 m20 => ?_)
        replace r13 := r13.mono s34.ex
        replace st := st.go s34 (go1 (.inr n26))
        replace sj24 := sj24.go s34 (go1 (.inr hD19))
        replace w := s34.ok
        exact kk22 x27 () _ ⟨_, sj24, hD19, m20⟩ P.ok
      · rintro Dl8 acc14 a15 H16 ⟨B17, s18, hD19, m20⟩ P
        have n35 := st.nn hD19
        replace st := st.go s18 go0
        replace w := s18.ok
        replace P := P.un2
        obtain ⟨B40, e36, k37, g38, r39⟩ := Mu.keep m20
        replace st := g38 _ _ _ st w0 n35
        replace w := st.ok
        replace r39 : Rep K B40 (.ref Dl8) (enc acc14) := r39
        refine h_nil ?_
        obtain ⟨p41, xs42, hv, hs43, hr44⟩ := Rep.sq w r39
        cases hv
        refine h_all hs43 hr44 ?_
        exact P.ok _ _ _ st (Rep.bl _)
    · replace P := P.iteF c1
      exact P.ok _ _ _ st (Rep.bl _)
theorem ok_is_whole {f : Addr} {fd : FuncData}  (F : Fun K "is_whole" "is_whole" s_is_whole f fd) (bI_isinstance : mg "isinstance" = none) (bI_int : mg "int" = none) (bI_bool : mg "bool" = none) : FnOk Pr wo K mg base CX0 1 f fd ["thing", "low", "high"] (sp_is_whole K) := by
  refine F.ok sc_is_whole (fun vs H Q E h => ?_) (fun cdv A outer s H vs Q E hr h => ?_)
  · obtain ⟨_, _, _, _, _, _, rfl, _⟩ := h; rfl
  · obtain ⟨B, v, d, lo, hi, w, rfl, r, k⟩ := h
    have st := Stp.refl (W := []) w
    refine ⟨_, pss_one (ps_ret (pe_and (pe_callB call_isi (by rfl) bI_isinstance PyProof.Rows.boot_isinstance (pa_cons (pv 0) (pa_cons (pe_bltn (v := .ty "int") (by rfl) bI_int Y.boot_int rfl) pa_nil)))
      (pe_and (pe_not (pe_callB call_isi (by rfl) bI_isinstance PyProof.Rows.boot_isinstance (pa_cons (pv 0) (pa_cons (pe_bltn (v := .ty "bool") (by rfl) bI_bool Y.boot_bool rfl) pa_nil))))
       (pe_one (pe_chain op_le op_le (pv 1) (pv 0) (pv 2)))))), ?_⟩
    refine h_ret (h_and (h_cb (h_cons (h_var rfl (h_cons (h_c (h_nil (isi (t := "int") w r (h_bl ?_)))))))))
    cases d <;> try exact h_iteF (k.ok _ _ _ st (Rep.bl _))
    · refine h_iteT (h_and (h_not (h_cb (h_cons (h_var rfl (h_cons (h_c (h_nil (isi (t := "bool") w r (h_bl (h_bl ?_))))))))))) 
      exact h_iteF (k.ok _ _ _ st (Rep.bl _))
    · cases r
      refine h_iteT (h_and (h_not (h_cb (h_cons (h_var rfl (h_cons (h_c (h_nil (isi (t := "bool") w (Rep.int _) (h_bl (h_bl ?_)))))))))))
      refine h_iteT (h_chain (h_var rfl (h_var rfl (h_ch (fun Q q => h_var rfl q) ?_))))
      exact k.ok _ _ _ st (Rep.bl _)
theorem ok_is_bytes {f : Addr} {fd : FuncData}  (F : Fun K "is_bytes" "is_bytes" s_is_bytes f fd) {f_is_whole : Addr} {d_is_whole : FuncData} (g_is_whole : mg "is_whole" = some (.ref f_is_whole)) (k_is_whole : PySem.W.keepIn K (.ref f_is_whole) = true) (b_is_whole : L2.Binds K d_is_whole ["thing", "low", "high"] []) (G_is_whole : FnOk Pr wo K mg base CX0 1 f_is_whole d_is_whole ["thing", "low", "high"] (sp_is_whole K)) (bI_isinstance : mg "isinstance" = none) (bI_list : mg "list" = none) (bI_all : mg "all" = none) : FnOk Pr wo K mg base CX0 2 f fd ["thing"] (sp_is_bytes K) := by
  refine F.ok sc_is_bytes (fun vs H Q E h => ?_) (fun cdv A outer s H0 vs Q E hr h => ?_)
  · obtain ⟨_, _, _, _, rfl, _⟩ := h; rfl
  · obtain ⟨B0, v_thing, a_thing, w, rfl, r_thing, P⟩ := h
    have w0 := w
    have hu := hu_of hr
    have hu64 := hu64_of hr
    have hu65 := hu65_of hr
    have hr1 : Room 1 _ := hr.mono (by decide)
    refine ⟨_, (pss_one (ps_ret (pe_and (pe_callB (r := rIsi K) call_isi (by rfl) bI_isinstance PyProof.Rows.boot_isinstance (pa_cons (pv 0) (pa_cons (pe_bltn (v := .ty "list") (by rfl) bI_list Y.boot_list rfl) pa_nil))) (pe_one (pe_callB (r := rAll K) (cr_all rfl) (by rfl) bI_all PyProof.Rows.boot_all (pa_cons (pe_lc (own := [("byte", 1)]) rfl sc_is_bytes.nd (pi_list (pv 0)) (blkOk_by (N := ["thing", "byte"]) (sc := defScope s_is_bytes) (by decide +kernel)) (fun _ _ _ _ _ => (pg_name (i := 1) sc_is_bytes.nd rfl (by first | exact Or.inl rfl | exact Or.inr rfl))) (fun _ _ _ _ _ => pts_nil) (fun _ _ _ _ _ => (pe_call G_is_whole hr1 rfl g_is_whole k_is_whole b_is_whole .nil pass0 (pa_cons (pv 1) (pa_cons pe_int (pa_cons pe_int pa_nil)))))) pa_nil)))))), ?_⟩
    unfold m_is_bytes at P
    have st := Stp.refl (W := []) w
    refine h_ret ?_
    refine h_and ?_
    refine h_cb ?_
    refine h_cons ?_
    refine h_var rfl ?_
    refine h_cons ?_
    refine h_c ?_
    refine h_nil ?_
    refine isi (t := "list") w (r_thing.mono st.ex) ?_
    refine h_bl ?_
    refine h_ite (fun c1 => ?_) (fun c1 => ?_)
    · replace P := P.iteT c1
      refine h_cb ?_
      refine h_cons ?_
      refine h_lcE ?_
      refine h_var rfl ?_
      obtain ⟨l1, hl2, P⟩ := P.asL
      have rc3 := (r_thing.mono st.ex)
      rw [hl2] at rc3
      obtain ⟨p4, xs5, rfl, hb6, hr7⟩ := Rep.sqB rc3
      refine h_lcL P (w.l hb6) hr7 (fun Dl (acc : List Bool) (a : Unit) H' => ∃ B', Stp [] B0 H0 B' H' ∧ H0 Dl = none ∧ Mu K B' H' Dl (acc.map enc)) (fun Dl hD => ⟨_, Stp.newM w hD, hD, Mu.new w hD .nil⟩) (fun _ _ _ _ j => ?_) ?_ ?_
      · obtain ⟨B17, s18, hD19, m20⟩ := j
        exact s18.ok.l (s18.ex.l hb6)
      · rintro Dl8 N9 T10 x11 v12 acc14 a15 H16 ⟨B17, s18, hD19, m20⟩ r13 hz21 kk22 kn23 P
        have wj25 := w
        have sj24 := s18
        have n26 := st.nn hD19
        replace st := st.go s18 go0
        replace w := s18.ok
        replace r13 := r13.mono s18.ex
        refine h_gname ?_
        refine h_lcT rfl ?_
        refine h_call ?_
        refine h_cons ?_
        refine h_var rfl ?_
        refine h_cons ?_
        refine h_c ?_
        refine h_cons ?_
        refine h_c ?_
        refine h_nil ?_
        refine ⟨B17, v12, x11, 0, 255, w, rfl, r13, (P.bind).mono (fun x27 P => ?_) (fun _ z => z)⟩
        refine fun v31 B28 H29 s30 r32 => ?_
        replace r13 := r13.mono s30.ex
        replace m20 := m20.step s30 nm0
        replace st := st.go s30 go0
        replace sj24 := sj24.go s30 go0
        replace w := s30.ok
        cases r32
        refine h_app (b := x27) w m20 (Rep.bl _) hz21 (fun H33 s34 m20 => ?_)
        replace r13 := r13.mono s34.ex
        replace st := st.go s34 (go1 (.inr n26))
        replace sj24 := sj24.go s34 (go1 (.inr hD19))
        replace w := s34.ok
        exact kk22 x27 () _ ⟨_, sj24, hD19, m20⟩ P.ok
      · rintro Dl8 acc14 a15 H16 ⟨B17, s18, hD19, m20⟩ P
        have n35 := st.nn hD19
        replace st := st.go s18 go0
        replace w := s18.ok
        replace P := P.un2
        obtain ⟨B40, e36, k37, g38, r39⟩ := Mu.keep m20
        replace st := g38 _ _ _ st w0 n35
        replace w := st.ok
        replace r39 : Rep K B40 (.ref Dl8) (enc acc14) := r39
        refine h_nil ?_
        obtain ⟨p41, xs42, hv, hs43, hr44⟩ := Rep.sq w r39
        cases hv
        refine h_all hs43 hr44 ?_
        exact P.ok _ _ _ st (Rep.bl _)
    · replace P := P.iteF c1
      exact P.ok _ _ _ st (Rep.bl _)
theorem ok_is_small {f : Addr} {fd : FuncData}  (F : Fun K "is_small" "is_small" s_is_small f fd) (bI_max : mg "max" = none) : FnOk Pr wo K mg base CX0 1 f fd ["edit"] (sp_is_small K) := by
  refine F.ok sc_is_small (fun vs H Q E h => ?_) (fun cdv A outer s H0 vs Q E hr h => ?_)
  · obtain ⟨_, _, _, _, rfl, _⟩ := h; rfl
  · obtain ⟨B0, v_edit, a_edit, w, rfl, r_edit, P⟩ := h
    have w0 := w
    have hu := hu_of hr
    have hu64 := hu64_of hr
    have hu65 := hu65_of hr
    refine ⟨_, (pss_cons (ps_asg (pv 0) (pg_tupK (K := K) (n := 3) rfl rfl (pgs_cons (pg_name (i := 1) sc_is_small.nd rfl (by first | exact Or.inl rfl | exact Or.inr rfl)) (pgs_cons (pg_name (i := 2) sc_is_small.nd rfl (by first | exact Or.inl rfl | exact Or.inr rfl)) (pgs_cons (pg_name (i := 3) sc_is_small.nd rfl (by first | exact Or.inl rfl | exact Or.inr rfl)) pgs_nil)))))
      (pss_cons (ps_if (pt_cmpR op_isNn (pv 2) pe_non (nomark _)) (pss_one (ps_ret (pe_cmpR op_le (pe_callB (r := rMaxT K) (cr_maxTup rfl) (by rfl) bI_max PyProof.Rows.boot_max (pa_cons (pv 1) pa_nil)) (pe_op op_pow pe_int pe_int) (nomark _)))) pss_nil)
      (pss_one (ps_ret (pe_cmpR op_le (pe_callB (r := rMaxT K) (cr_maxTup rfl) (by rfl) bI_max PyProof.Rows.boot_max (pa_cons (pe_op (r := rCatA K) op_catA (pe_op (r := rCatA K) op_catA (pv 1) (pv 2)) (pv 3)) pa_nil)) (pe_op op_pow pe_int pe_int) (nomark _)))))), ?_⟩
    unfold m_is_small at P
    have st := Stp.refl (W := []) w
    refine h_seq ?_
    refine h_asg ?_
    refine h_var rfl ?_
    obtain ⟨p1, xs2, rfl, hs3, hr4⟩ := Rep.st w (r_edit.mono st.ex)
    obtain ⟨u5, u7, u9, rfl, r6, r8, r10⟩ := RepL.open3 hr4
    refine h_tupG hs3 rfl ?_
    refine h_gcons ?_
    refine h_gname ?_
    refine h_gcons ?_
    refine h_gname ?_
    refine h_gcons ?_
    refine h_gname ?_
    refine h_gnil ?_
    refine h_nx ?_
    refine h_seq <| h_if ?_
    refine h_test ?_
    refine h_op ?_
    refine h_var rfl ?_
    refine h_c ?_
    refine h_isN r8 ?_
    refine h_bl ?_
    refine h_ite (fun c1 => ?_) (fun c1 => ?_)
    · replace P := P.iteT c1
      refine h_ret ?_
      refine h_op ?_
      refine h_cb ?_
      refine h_cons ?_
      refine h_var rfl ?_
      refine h_nil ?_
      obtain ⟨l11, hn12, hl13, P⟩ := P.asIs
      have rc14 := r6
      rw [hl13] at rc14
      refine h_maxTup w hn12 rc14 ?_
      refine h_op (h_c (h_c (h_pow (k := 1000000000000000000000000000000) (by decide +kernel) (by decide +kernel) ?_)))
      refine h_I0 ?_
      exact P.ok _ _ _ st (Rep.bl _)
    · replace P := P.iteF c1
      refine h_next ?_
      refine h_nx ?_
      refine h_ret ?_
      refine h_op ?_
      refine h_cb ?_
      refine h_cons ?_
      refine h_op ?_
      refine h_op ?_
      refine h_var rfl ?_
      refine h_var rfl ?_
      have rt0 : Rep K B0 u5 (enc a_edit.a) := r6
      obtain ⟨l15, hl16, P⟩ := P.asT
      have rc17 := rt0
      rw [hl16] at rc17
      obtain ⟨p18, xs19, rfl, hs20, hr21⟩ := Rep.st w rc17
      have rt1 : Rep K B0 u7 (enc a_edit.b) := r8
      obtain ⟨l22, hl23, P⟩ := P.asT
      have rc24 := rt1
      rw [hl23] at rc24
      obtain ⟨p25, xs26, rfl, hs27, hr28⟩ := Rep.st w rc24
      obtain ⟨gd, P⟩ := P.guard
      refine h_catA w rc17 rc24 gd (fun u29 B30 H31 s32 r33 => ?_)
      replace r6 := r6.mono s32.ex
      replace r8 := r8.mono s32.ex
      replace r10 := r10.mono s32.ex
      replace st := st.go s32 go0
      replace w := s32.ok
      replace r33 : Rep K B30 u29 (enc (.tup ((l15 ++ l22).map enc) : D)) := r33
      refine h_var rfl ?_
      obtain ⟨l34, hl35, P⟩ := P.asT
      have rc36 := r33
      rw [hl35] at rc36
      obtain ⟨p37, xs38, rfl, hs39, hr40⟩ := Rep.st w rc36
      have rt1 : Rep K B30 u9 (enc a_edit.c) := r10
      obtain ⟨l41, hl42, P⟩ := P.asT
      have rc43 := rt1
      rw [hl42] at rc43
      obtain ⟨p44, xs45, rfl, hs46, hr47⟩ := Rep.st w rc43
      obtain ⟨gd, P⟩ := P.guard
      refine h_catA w rc36 rc43 gd (fun u48 B49 H50 s51 r52 => ?_)
      replace r6 := r6.mono s51.ex
      replace r8 := r8.mono s51.ex
      replace r10 := r10.mono s51.ex
      replace st := st.go s51 go0
      replace w := s51.ok
      replace r52 : Rep K B49 u48 (enc (.tup ((l34 ++ l41).map enc) : D)) := r52
      refine h_nil ?_
      obtain ⟨l53, hn54, hl55, P⟩ := P.asIs
      have rc56 := r52
      rw [hl55] at rc56
      refine h_maxTup w hn54 rc56 ?_
      refine h_op (h_c (h_c (h_pow (k := 1000000000000000000000000000000) (by decide +kernel) (by decide +kernel) ?_)))
      refine h_I0 ?_
      exact P.ok _ _ _ st (Rep.bl _)
theorem ok_are_lane_edits {f : Addr} {fd : FuncData}  (F : Fun K "are_lane_edits" "are_lane_edits" s_are_lane_edits f fd) {f_is_edits : Addr} {d_is_edits : FuncData} (g_is_edits : mg "is_edits" = some (.ref f_is_edits)) (k_is_edits : PySem.W.keepIn K (.ref f_is_edits) = true) (b_is_edits : L2.Binds K d_is_edits ["thing"] []) (G_is_edits : FnOk Pr wo K mg base CX0 5 f_is_edits d_is_edits ["thing"] (sp_is_edits K)) {f_is_small : Addr} {d_is_small : FuncData} (g_is_small : mg "is_small" = some (.ref f_is_small)) (k_is_small : PySem.W.keepIn K (.ref f_is_small) = true) (b_is_small : L2.Binds K d_is_small ["edit"] []) (G_is_small : FnOk Pr wo K mg base CX0 1 f_is_small d_is_small ["edit"] (sp_is_small K)) (bI_all : mg "all" = none) (bI_isinstance : mg "isinstance" = none) (bI_list : mg "list" = none) (bI_len : mg "len" = none) : FnOk Pr wo K mg base CX0 6 f fd ["thing"] (sp_are_lane_edits K) := by
  refine F.ok sc_are_lane_edits (fun vs H Q E h => ?_) (fun cdv A outer s H0 vs Q E hr h => ?_)
  · obtain ⟨_, _, _, _, rfl, _⟩ := h; rfl
  · obtain ⟨B0, v_thing, a_thing, w, rfl, r_thing, P⟩ := h
    have w0 := w
    have hu := hu_of hr
    have hu64 := hu64_of hr
    have hu65 := hu65_of hr
    have hr1 : Room 1 _ := hr.mono (by decide)
    have hr5 : Room 5 _ := hr.mono (by decide)
    refine ⟨_, (pss_cons (ps_if (PW.pt (pw_or (pt_not (pt_val (pe_callB (r := rIsi K) call_isi (by rfl) bI_isinstance PyProof.Rows.boot_isinstance (pa_cons (pv 0) (pa_cons (pe_bltn (v := .ty "list") (by rfl) bI_list Y.boot_list rfl) pa_nil))))) (pw_or (pt_cmpR op_gt (pe_callB (r := rLenY K) cr_len (by rfl) bI_len PySem.boot_len (pa_cons (pv 0) pa_nil)) pe_int (nomark _)) (pw_or1 (pt_not (pt_val (pe_call G_is_edits hr5 rfl g_is_edits k_is_edits b_is_edits .nil pass0 (pa_cons (pv 0) pa_nil)))))))) (pss_one (ps_ret pe_bl)) pss_nil)
      (pss_one (ps_ret (pe_callB (r := rAll K) (cr_all rfl) (by rfl) bI_all PyProof.Rows.boot_all (pa_cons (pe_lc (own := [("edit", 1)]) rfl sc_are_lane_edits.nd (pi_list (pv 0)) (blkOk_by (N := ["thing", "edit"]) (sc := defScope s_are_lane_edits) (by decide +kernel)) (fun _ _ _ _ _ => (pg_name (i := 1) sc_are_lane_edits.nd rfl (by first | exact Or.inl rfl | exact Or.inr rfl))) (fun _ _ _ _ _ => pts_nil) (fun _ _ _ _ _ => (pe_call G_is_small hr1 rfl g_is_small k_is_small b_is_small .nil pass0 (pa_cons (pv 1) pa_nil)))) pa_nil))))), ?_⟩
    unfold m_are_lane_edits at P
    have st := Stp.refl (W := []) w
    refine h_seq <| h_if ?_
    refine h_tor ?_
    refine h_tnot ?_
    refine h_tB ?_
    refine h_cb ?_
    refine h_cons ?_
    refine h_var rfl ?_
    refine h_cons ?_
    refine h_c ?_
    refine h_nil ?_
    refine isi (t := "list") w (r_thing.mono st.ex) ?_
    refine h_bl ?_
    refine h_iteN (fun c1 => ?_) (fun c1 => ?_)
    · replace P := P.iteF c1
      refine h_iteT ?_
      refine h_ret ?_
      refine h_c ?_
      exact P.ok _ _ _ st (Rep.bl _)
    · replace P := P.iteT c1
      refine h_tor ?_
      refine h_test ?_
      refine h_op ?_
      refine h_cb ?_
      refine h_cons ?_
      refine h_var rfl ?_
      refine h_nil ?_
      obtain ⟨l1, hl2, P⟩ := P.asL
      have rc3 := (r_thing.mono st.ex)
      rw [hl2] at rc3
      obtain ⟨p4, xs5, rfl, hs6, hr7⟩ := Rep.sq w rc3
      refine h_len hs6 hr7 ?_
      refine h_c ?_
      refine h_I0 ?_
      refine h_bl ?_
      refine h_ite (fun c1 => ?_) (fun c1 => ?_)
      · replace P := P.iteT c1
        refine h_iteT ?_
        refine h_ret ?_
        refine h_c ?_
        exact P.ok _ _ _ st (Rep.bl _)
      · replace P := P.iteF c1
        refine h_tnot ?_
        refine h_tB ?_
        refine h_call ?_
        refine h_cons ?_
        refine h_var rfl ?_
        refine h_nil ?_
        refine ⟨B0, (.ref p4), a_thing, w, rfl, (r_thing.mono st.ex), (P.bind).mono (fun x8 P => ?_) (fun _ z => z)⟩
        refine fun v12 B9 H10 s11 r13 => ?_
        replace st := st.go s11 go0
        replace w := s11.ok
        cases r13
        refine h_bl ?_
        refine h_iteN (fun c1 => ?_) (fun c1 => ?_)
        · replace P := P.iteF c1
          refine h_ret ?_
          refine h_c ?_
          exact P.ok _ _ _ st (Rep.bl _)
        · replace P := P.iteT c1
          refine h_next ?_
          refine h_nx ?_
          refine h_ret ?_
          refine h_cb ?_
          refine h_cons ?_
          refine h_lcE ?_
          refine h_var rfl ?_
          obtain ⟨l14, hl15, P⟩ := P.asL
          have rc16 := (r_thing.mono st.ex)
          rw [hl15] at rc16
          obtain ⟨p17, xs18, hv, hb19, hr20⟩ := Rep.sqB rc16
          cases hv
          refine h_lcL P (w.l hb19) hr20 (fun Dl (acc : List Bool) (a : Unit) H' => ∃ B', Stp [] B9 H10 B' H' ∧ H10 Dl = none ∧ Mu K B' H' Dl (acc.map enc)) (fun Dl hD => ⟨_, Stp.newM w hD, hD, Mu.new w hD .nil⟩) (fun _ _ _ _ j => ?_) ?_ ?_
          · obtain ⟨B30, s31, hD32, m33⟩ := j
            exact s31.ok.l (s31.ex.l hb19)
          · rintro Dl21 N22 T23 x24 v25 acc27 a28 H29 ⟨B30, s31, hD32, m33⟩ r26 hz34 kk35 kn36 P
            have wj38 := w
            have sj37 := s31
            have n39 := st.nn hD32
            replace st := st.go s31 go0
            replace w := s31.ok
            replace r26 := r26.mono s31.ex
            refine h_gname ?_
            refine h_lcT rfl ?_
            refine h_call ?_
            refine h_cons ?_
            refine h_var rfl ?_
            refine h_nil ?_
            obtain ⟨x40, hx41, P⟩ := P.asD
            have rc42 := r26
            rw [hx41] at rc42
            refine ⟨B30, v25, x40, w, rfl, rc42, (P.bind).mono (fun x43 P => ?_) (fun _ z => z)⟩
            refine fun v47 B44 H45 s46 r48 => ?_
            replace r26 := r26.mono s46.ex
            replace m33 := m33.step s46 nm0
            replace st := st.go s46 go0
            replace sj37 := sj37.go s46 go0
            replace w := s46.ok
            cases r48
            refine h_app (b := x43) w m33 (Rep.bl _) hz34 (fun H49 s50 m33 => ?_)
            replace r26 := r26.mono s50.ex
            replace st := st.go s50 (go1 (.inr n39))
            replace sj37 := sj37.go s50 (go1 (.inr hD32))
            replace w := s50.ok
            exact kk35 x43 () _ ⟨_, sj37, hD32, m33⟩ P.ok
          · rintro Dl21 acc27 a28 H29 ⟨B30, s31, hD32, m33⟩ P
            have n51 := st.nn hD32
            replace st := st.go s31 go0
            replace w := s31.ok
            replace P := P.un2
            obtain ⟨B56, e52, k53, g54, r55⟩ := Mu.keep m33
            replace st := g54 _ _ _ st w0 n51
            replace w := st.ok
            replace r55 : Rep K B56 (.ref Dl21) (enc acc27) := r55
            refine h_nil ?_
            obtain ⟨p57, xs58, hv, hs59, hr60⟩ := Rep.sq w r55
            cases hv
            refine h_all hs59 hr60 ?_
            exact P.ok _ _ _ st (Rep.bl _)
theorem ok_written {f : Addr} {fd : FuncData}  (F : Fun K "written" "written" s_written f fd) (c_GREATEST : CI mg "GREATEST" 1000000000000000000000000000000000000000000000000000000000000) {C_NoNumber : Addr} (T_NoNumber : ExcR K mg "NoNumber" C_NoNumber) {f_is_whole : Addr} {d_is_whole : FuncData} (g_is_whole : mg "is_whole" = some (.ref f_is_whole)) (k_is_whole : PySem.W.keepIn K (.ref f_is_whole) = true) (b_is_whole : L2.Binds K d_is_whole ["thing", "low", "high"] []) (G_is_whole : FnOk Pr wo K mg base CX0 1 f_is_whole d_is_whole ["thing", "low", "high"] (sp_is_whole K)) : FnOk Pr wo K mg base (L2.CX Pr wo) 2 f fd ["number"] (sp_written K mg) := by
  refine F.okX sc_written (fun vs H Q E h => ?_) (fun cdv A outer s H0 vs Q E hr h => ?_)
  · obtain ⟨_, _, _, rfl, _⟩ := h; rfl
  · obtain ⟨B0, a_number, w, rfl, P⟩ := h
    have w0 := w
    have hu := hu_of hr
    have hu64 := hu64_of hr
    have hu65 := hu65_of hr
    have hr1 : Room 1 _ := hr.mono (by decide)
    refine ⟨_, (pss_cons (ps_if (pt_not (pt_val (pe_call G_is_whole hr1 rfl g_is_whole k_is_whole b_is_whole .nil pass0 (pa_cons (pv 0) (pa_cons pe_int (pa_cons (pe_globI (i := 1000000000000000000000000000000000000000000000000000000000000) (by rfl) c_GREATEST) pa_nil)))))) (pss_one (ps_raise rfl (takes_of rfl rfl rfl rfl) (pmk_own PySem.F.excBase_ValueError T_NoNumber.ex T_NoNumber.g T_NoNumber.kp (raises_own T_NoNumber.ec.hs T_NoNumber.ty) rfl))) pss_nil)
      (pss_cons (ps_set (i := 1) sc_written.nd rfl (by first | exact Or.inl rfl | exact Or.inr rfl) (pe_lst (pa_cons (pe_op op_mod (pv 0) pe_int) pa_nil)))
      (pss_cons (ps_set (i := 0) sc_written.nd rfl (by first | exact Or.inl rfl | exact Or.inr rfl) (pe_op op_fdiv (pv 0) pe_int))
      (pss_cons (ps_while (passes_of rfl) (pt_cmpR op_gt (pv 0) pe_int (nomark _)) (pss_cons (ps_expr (pe_bm PySem.F.plainAttrs_list PySem.F.slot_list_append PySem.F.type_list_append mt_append (pv 1) (pa_cons (pe_op op_add pe_int (pe_op op_mod (pv 0) pe_int)) pa_nil)))
      (pss_one (ps_set (i := 0) sc_written.nd rfl (by first | exact Or.inl rfl | exact Or.inr rfl) (pe_op op_fdiv (pv 0) pe_int)))))
      (pss_one (ps_ret (pe_revL (pv 1)))))))), ?_⟩
    unfold m_written at P
    have st := Stp.refl (W := []) w
    refine h_seq <| h_if ?_
    refine h_tnot ?_
    refine h_tB ?_
    refine h_call ?_
    refine h_cons ?_
    refine h_var rfl ?_
    refine h_cons ?_
    refine h_c ?_
    refine h_cons ?_
    refine h_c ?_
    refine h_nil ?_
    refine ⟨B0, .int a_number, (enc (a_number : Int)), 0, 1000000000000000000000000000000000000000000000000000000000000, w, rfl, (Rep.int _), (P.bind.noErr).mono (fun x1 P => ?_) (fun _ z => z.elim)⟩
    refine fun v5 B2 H3 s4 r6 => ?_
    replace st := st.go s4 go0
    replace w := s4.ok
    cases r6
    refine h_bl ?_
    refine h_iteN (fun c1 => ?_) (fun c1 => ?_)
    · replace P := P.iteF c1
      exact P.err _ _ _ T_NoNumber.g st
    · replace P := P.iteT c1
      refine h_next ?_
      refine h_nx ?_
      refine h_set ?_
      refine h_lst ?_
      refine h_cons ?_
      refine h_op ?_
      refine h_var rfl ?_
      refine h_c ?_
      refine h_I (by decide +kernel) ?_
      refine h_nil ?_
      refine h_newM w (ds := (([(a_number % 128)] : List Int)).map enc) (K := K) (.cons (Rep.int _) .nil) (fun p7 H8 hn11 s9 m10 => ?_) (by show 1 ≤ sizeLine; decide)
      have n12 := st.nn hn11
      replace st := st.go s9 go0
      replace w := s9.ok
      refine h_set ?_
      refine h_op ?_
      refine h_var rfl ?_
      refine h_c ?_
      refine h_I ⟨by decide +kernel, by decide +kernel⟩ ?_
      replace P := P.lt
      generalize hx : (a_number / 128) = x13 at P ⊢
      refine h_seq ?_
      have wj15 := w
      have sj14 := Stp.refl (W := [p7]) w
      refine h_while P (fun (a : Int × (List Int)) σ' H' => ∃ (B' : Hp), Stp [p7] B2 H8 B' H' ∧ σ' = [some (.int a.1), some ((.ref p7))] ∧ Mu K B' H' p7 (a.2.map enc)) ⟨_, sj14, rfl, m10⟩ ?_ ?_
      · rintro N16 C17 T18 a23 _ H25 ⟨B24, s26, rfl, m10⟩ kn19 kk20 kr21 kb22 P
        replace st := st.go s26 (go1 (.inr n12))
        replace w := s26.ok
        have sj14 := s26
        refine h_test ?_
        refine h_op ?_
        refine h_var rfl ?_
        refine h_c ?_
        refine h_I0 ?_
        refine h_bl ?_
        refine h_ite (fun c1 => ?_) (fun c1 => ?_)
        · replace P := P.iteT c1
          refine ⟨N16, kn19, ?_⟩
          refine h_seq ?_
          refine h_drop ?_
          refine h_bm ?_
          refine h_var rfl ?_
          refine h_bmL m10 ?_
          refine h_cons ?_
          refine h_op ?_
          refine h_c ?_
          refine h_op ?_
          refine h_var rfl ?_
          refine h_c ?_
          refine h_I (by decide +kernel) ?_
          refine h_I0 ?_
          refine h_nil ?_
          obtain ⟨gd, P⟩ := P.guard
          refine h_append (b := (128 + (a23.1 % 128))) w m10 (Rep.int _) gd (fun H27 s28 m10 => ?_)
          replace st := st.go s28 (go1 (.inr n12))
          replace sj14 := sj14.go s28 (go1 (.inl (by simp)))
          replace w := s28.ok
          refine h_nx ?_
          refine h_set1 ?_
          refine h_op ?_
          refine h_var rfl ?_
          refine h_c ?_
          refine h_I ⟨by decide +kernel, by decide +kernel⟩ ?_
          replace P := P.lt
          generalize hx : (a23.1 / 128) = x29 at P ⊢
          refine h_nx ?_
          exact kk20 (x29, (a23.2 ++ [(128 + (a23.1 % 128))])) _ _ ⟨_, sj14, rfl, m10⟩ P.ok
        · replace P := P.iteF c1
          exact kb22 (a23.1, a23.2) _ _ ⟨_, sj14, rfl, m10⟩ P.ok
      · rintro a30 _ H32 ⟨B31, s33, rfl, m10⟩ P
        replace st := st.go s33 (go1 (.inr n12))
        replace w := s33.ok
        refine h_nx ?_
        refine h_ret ?_
        refine h_revL ?_
        refine h_var rfl ?_
        obtain ⟨xs35, hv, hs36, hr37⟩ := Mu.sq m10
        refine h_revQ hs36 ?_
        refine h_nwM w (ds := ((a30.2.reverse)).map enc) (K := K) (RepL.rev hr37) (fun p38 H39 hn42 s40 m41 => ?_) 
        have n43 := st.nn hn42
        have ne44 := Mu.ne m10 hn42
        replace m10 := m10.step s40 nm0
        replace st := st.go s40 go0
        replace w := s40.ok
        exact P.ok _ _ _ st n43 m41
theorem ok_number_at {f : Addr} {fd : FuncData}  (F : Fun K "number_at" "number_at" s_number_at f fd) (c_GREATEST : CI mg "GREATEST" 1000000000000000000000000000000000000000000000000000000000000) (bI_len : mg "len" = none) : FnOk Pr wo K mg base CX0 1 f fd ["row", "at"] (sp_number_at K) := by
  refine F.ok sc_number_at (fun vs H Q E h => ?_) (fun cdv A outer s H0 vs Q E hr h => ?_)
  · obtain ⟨_, _, _, _, _, rfl, _⟩ := h; rfl
  · obtain ⟨B0, v_row, a_row, a_at, w, rfl, r_row, P⟩ := h
    have w0 := w
    have hu := hu_of hr
    have hu64 := hu64_of hr
    have hu65 := hu65_of hr
    refine ⟨_, (pss_cons (ps_if (pt_cmpR (r := rEqD K) (op_eqD hu64) (pe_slice (r := rSlQ K) sl_Q (pv 0) (po_some (pv 1)) (po_some (pe_op op_add (pv 1) pe_int))) (pe_lst (pa_cons pe_int pa_nil)) (nomark _)) (pss_one (ps_ret pe_non)) pss_nil)
      (pss_cons (ps_set (i := 2) sc_number_at.nd rfl (by first | exact Or.inl rfl | exact Or.inr rfl) pe_int)
      (pss_cons (ps_while PassesOwn.never (pt_cmpR op_lt (pv 1) (pe_callB (r := rLenY K) cr_len (by rfl) bI_len PySem.boot_len (pa_cons (pv 0) pa_nil)) (nomark _)) (pss_cons (ps_set (i := 2) sc_number_at.nd rfl (by first | exact Or.inl rfl | exact Or.inr rfl) (pe_op op_add (pe_op op_mul (pv 2) pe_int) (pe_op op_mod (pe_ix (r := rIxL K) ix_list (pv 0) (pv 1) (fun _ _ => rfl)) pe_int)))
      (pss_cons (ps_set (i := 1) sc_number_at.nd rfl (by first | exact Or.inl rfl | exact Or.inr rfl) (pe_op op_add (pv 1) pe_int))
      (pss_cons (ps_if (pt_cmpR op_gt (pv 2) (pe_globI (i := 1000000000000000000000000000000000000000000000000000000000000) (by rfl) c_GREATEST) (nomark _)) (pss_one (ps_ret pe_non)) pss_nil)
      (pss_one (ps_if (pt_cmpR op_lt (pe_ix (r := rIxL K) ix_list (pv 0) (pe_op op_sub (pv 1) pe_int) (fun _ _ => rfl)) pe_int (nomark _)) (pss_one (ps_ret (pe_tup (pa_cons (pv 2) (pa_cons (pv 1) pa_nil))))) pss_nil))))))
      (pss_one (ps_ret pe_non))))), ?_⟩
    unfold m_number_at at P
    have st := Stp.refl (W := []) w
    refine h_seq <| h_if ?_
    refine h_test ?_
    refine h_op ?_
    refine h_sl ?_
    refine h_var rfl ?_
    refine h_part ?_
    refine h_var rfl ?_
    refine h_isI ?_
    refine h_part ?_
    refine h_op ?_
    refine h_var rfl ?_
    refine h_c ?_
    refine h_I0 ?_
    refine h_isI ?_
    obtain ⟨p1, xs2, rfl, hs3, hr4⟩ := Rep.sq w (r_row.mono st.ex)
    refine h_slQ hs3 ?_
    refine h_nwL w (ds := ((cutL a_row (some a_at) (some (a_at + 1)))).map enc) (K := K) (hr4.cut (some a_at) (some (a_at + 1))) (fun p5 B6 H7 s8 r9 => ?_) 
    replace st := st.go s8 go0
    replace w := s8.ok
    replace r9 : Rep K B6 (.ref p5) (enc (cutL a_row (some a_at) (some (a_at + 1)))) := r9
    refine h_lst ?_
    refine h_cons ?_
    refine h_c ?_
    refine h_nil ?_
    refine h_newL w (ds := (([128] : List Int)).map enc) (K := K) (.cons (Rep.int _) .nil) (fun p10 B11 H12 s13 r14 => ?_) (by show 1 ≤ sizeLine; decide)
    replace r9 := r9.mono s13.ex
    replace st := st.go s13 go0
    replace w := s13.ok
    replace r14 : Rep K B11 (.ref p10) (enc ([128] : List Int)) := r14
    obtain ⟨gd, P⟩ := P.guard
    refine h_eqD (d := (enc (cutL a_row (some a_at) (some (a_at + 1))))) (e := (enc ([128] : List Int))) w r9 r14 gd ?_
    refine h_bl ?_
    refine h_ite (fun c1 => ?_) (fun c1 => ?_)
    · replace P := P.iteT c1
      refine h_ret ?_
      refine h_c ?_
      exact P.ok _ _ _ st Rep.non
    · replace P := P.iteF c1
      refine h_next ?_
      refine h_nx ?_
      refine h_set ?_
      refine h_c ?_
      refine h_seq ?_
      have wj16 := w
      have sj15 := Stp.refl (W := []) w
      refine h_while P (fun (a : Int × Int) σ' H' => ∃ (B' : Hp), Stp [] B11 H12 B' H' ∧ σ' = [some ((.ref p1)), some (.int a.2), some (.int a.1)]) ⟨_, sj15, rfl⟩ ?_ ?_
      · rintro N17 C18 T19 a24 _ H26 ⟨B25, s27, rfl⟩ kn20 kk21 kr22 kb23 P
        replace st := st.go s27 go0
        replace w := s27.ok
        have sj15 := s27
        refine h_test ?_
        refine h_op ?_
        refine h_var rfl ?_
        refine h_cb ?_
        refine h_cons ?_
        refine h_var rfl ?_
        refine h_nil ?_
        obtain ⟨p28, xs29, hv, hs30, hr31⟩ := Rep.sq w (r_row.mono st.ex)
        cases hv
        refine h_len hs30 hr31 ?_
        refine h_I0 ?_
        refine h_bl ?_
        refine h_ite (fun c1 => ?_) (fun c1 => ?_)
        · replace P := P.iteT c1
          refine ⟨N17, kn20, ?_⟩
          refine h_set ?_
          refine h_op ?_
          refine h_op ?_
          refine h_var rfl ?_
          refine h_c ?_
          refine h_I (.inr ⟨by decide +kernel, by decide +kernel⟩) ?_
          refine h_op ?_
          refine h_op ?_
          refine h_var rfl ?_
          refine h_var rfl ?_
          obtain ⟨p32, xs33, hv, hs34, hr35⟩ := Rep.sq w (r_row.mono st.ex)
          cases hv
          obtain ⟨x36, hx37, P⟩ := P.ix
          obtain ⟨u38, hu, r39⟩ := RepL.atE hr35 hx37
          refine h_ixL hs34 hu ?_
          cases r39
          refine h_c ?_
          refine h_I (by decide +kernel) ?_
          refine h_I0 ?_
          replace P := P.lt
          generalize hx : ((a24.1 * 128) + (x36 % 128)) = x40 at P ⊢
          refine h_set ?_
          refine h_op ?_
          refine h_var rfl ?_
          refine h_c ?_
          refine h_I0 ?_
          replace P := P.lt
          generalize hx : (a24.2 + 1) = x41 at P ⊢
          refine h_seq <| h_if ?_
          refine h_test ?_
          refine h_op ?_
          refine h_var rfl ?_
          refine h_c ?_
          refine h_I0 ?_
          refine h_bl ?_
          refine h_ite (fun c1 => ?_) (fun c1 => ?_)
          · replace P := P.iteT c1
            refine h_ret ?_
            refine h_c ?_
            exact (kr22 _ P.ok) _ _ _ st Rep.non
          · replace P := P.iteF c1
            refine h_next ?_
            refine h_nx ?_
            refine h_if ?_
            refine h_test ?_
            refine h_op ?_
            refine h_op ?_
            refine h_var rfl ?_
            refine h_op ?_
            refine h_var rfl ?_
            refine h_c ?_
            refine h_I0 ?_
            obtain ⟨p42, xs43, hv, hs44, hr45⟩ := Rep.sq w (r_row.mono st.ex)
            cases hv
            obtain ⟨x46, hx47, P⟩ := P.ix
            obtain ⟨u48, hu, r49⟩ := RepL.atE hr45 hx47
            refine h_ixL hs44 hu ?_
            cases r49
            refine h_c ?_
            refine h_I0 ?_
            refine h_bl ?_
            refine h_ite (fun c1 => ?_) (fun c1 => ?_)
            · replace P := P.iteT c1
              refine h_ret ?_
              refine h_tup ?_
              refine h_cons ?_
              refine h_var rfl ?_
              refine h_cons ?_
              refine h_var rfl ?_
              refine h_nil ?_
              refine h_newT w (K := K) (.cons (Rep.int _) (.cons (Rep.int _) .nil)) (fun p50 B51 H52 s53 r54 => ?_) (by show 2 ≤ sizeLine; decide)
              replace st := st.go s53 go0
              replace sj15 := sj15.go s53 go0
              replace w := s53.ok
              replace r54 : Rep K B51 (.ref p50) (enc (⟨x40, x41⟩ : (Tp2 Int Int))) := r54
              exact (kr22 _ P.ok) _ _ _ st r54
            · replace P := P.iteF c1
              refine h_next ?_
              refine h_nx ?_
              exact kk21 (x40, x41) _ _ ⟨_, sj15, rfl⟩ P.ok
        · replace P := P.iteF c1
          exact kb23 (a24.1, a24.2) _ _ ⟨_, sj15, rfl⟩ P.ok
      · rintro a55 _ H57 ⟨B56, s58, rfl⟩ P
        replace st := st.go s58 go0
        replace w := s58.ok
        refine h_nx ?_
        refine h_ret ?_
        refine h_c ?_
        exact P.ok _ _ _ st Rep.non
theorem ok_all_written {f : Addr} {fd : FuncData}  (F : Fun K "all_written" "all_written" s_all_written f fd) {f_written : Addr} {d_written : FuncData} (g_written : mg "written" = some (.ref f_written)) (k_written : PySem.W.keepIn K (.ref f_written) = true) (b_written : L2.Binds K d_written ["number"] []) (G_written : FnOk Pr wo K mg base (L2.CX Pr wo) 2 f_written d_written ["number"] (sp_written K mg)) : FnOk Pr wo K mg base CX0 3 f fd ["numbers"] (sp_all_written K) := by
  refine F.ok sc_all_written (fun vs H Q E h => ?_) (fun cdv A outer s H0 vs Q E hr h => ?_)
  · obtain ⟨_, _, _, _, rfl, _⟩ := h; rfl
  · obtain ⟨B0, v_numbers, a_numbers, w, rfl, r_numbers, P⟩ := h
    have w0 := w
    have hu := hu_of hr
    have hu64 := hu64_of hr
    have hu65 := hu65_of hr
    have hr2 : Room 2 _ := hr.mono (by decide)
    refine ⟨_, (pss_cons (ps_set (i := 1) sc_all_written.nd rfl (by first | exact Or.inl rfl | exact Or.inr rfl) (pe_lst pa_nil))
      (pss_cons (ps_for PassesOwn.never rfl (pi_list (pv 0)) (pg_name (i := 2) sc_all_written.nd rfl (by first | exact Or.inl rfl | exact Or.inr rfl)) (pss_one (ps_expr (pe_bm PySem.F.plainAttrs_list PySem.F.slot_list_extend PySem.F.type_list_extend mt_extend (pv 1) (pa_cons (pe_call G_written hr2 rfl g_written k_written b_written .nil passL (pa_cons (pv 2) pa_nil)) pa_nil)))))
      (pss_one (ps_ret (pv 1))))), ?_⟩
    unfold m_all_written at P
    have st := Stp.refl (W := []) w
    refine h_set ?_
    refine h_lst ?_
    refine h_nil ?_
    refine h_newM w (ds := (([] : List Int)).map enc) (K := K) .nil (fun p1 H2 hn5 s3 m4 => ?_) (by show 0 ≤ sizeLine; decide)
    have n6 := st.nn hn5
    replace st := st.go s3 go0
    replace w := s3.ok
    refine h_seq ?_
    refine h_forE ?_
    refine h_var rfl ?_
    obtain ⟨p7, xs8, rfl, hr10, hb9⟩ := Bor.sq0 r_numbers
    have wj12 := w
    have sj11 := Stp.refl (W := [p1]) w
    refine h_forL P (hb9 _ _ st) (hr10.mono st.ex) (fun (a : (List Int)) σ' H' => ∃ (B' : Hp) (o_number : Option V), Stp [p1] B0 H2 B' H' ∧ σ' = [some ((.ref p7)), some ((.ref p1)), o_number] ∧ Mu K B' H' p1 (a.map enc)) ⟨_, _, sj11, rfl, m4⟩ (fun _ _ _ j => ?_) ?_ ?_
    · obtain ⟨B22, o25, s24, rfl, m4⟩ := j
      exact hb9 _ _ (st.go s24 (go1 (.inr n6)))
    · rintro N13 T14 x19 v20 a18 _ H23 ⟨B22, o25, s24, rfl, m4⟩ r21 kk15 kr16 kb17 P
      replace st := st.go s24 (go1 (.inr n6))
      replace w := s24.ok
      have sj11 := s24
      replace r21 := r21.mono sj11.ex
      cases r21
      refine h_gname ?_
      refine h_drop ?_
      refine h_bm ?_
      refine h_var rfl ?_
      refine h_bmL m4 ?_
      refine h_cons ?_
      refine h_call ?_
      refine h_cons ?_
      refine h_var rfl ?_
      refine h_nil ?_
      refine ⟨B22, x19, w, rfl, (P.bind.noErr).mono (fun x26 P => ?_) (fun _ z => z.elim)⟩
      refine fun p32 B27 H28 s29 hn33 m34 => ?_
      have n36 := st.nn hn33
      have n37 := sj11.nn hn33
      have ne38 := Mu.ne m4 hn33
      replace m4 := m4.step s29 nm0
      replace st := st.go s29 go0
      replace sj11 := sj11.go s29 go0
      replace w := s29.ok
      refine h_nil ?_
      obtain ⟨gd, P⟩ := P.guard
      refine h_extend w m4 m34 gd (fun H39 s40 m4 => ?_)
      replace st := st.go s40 (go1 (.inr n6))
      replace sj11 := sj11.go s40 (go1 (.inl (by simp)))
      replace w := s40.ok
      refine h_nx ?_
      exact kk15 (a18 ++ x26) _ _ ⟨_, _, sj11, rfl, m4⟩ P.ok
    · rintro a41 _ H43 ⟨B42, o45, s44, rfl, m4⟩ P
      replace st := st.go s44 (go1 (.inr n6))
      replace w := s44.ok
      refine h_nx ?_
      refine h_ret ?_
      refine h_var rfl ?_
      exact P.ok _ _ _ st n6 m4
theorem ok_edit_numbers {f : Addr} {fd : FuncData}  (F : Fun K "edit_numbers" "edit_numbers" s_edit_numbers f fd) (bI_list : mg "list" = none) : FnOk Pr wo K mg base CX0 1 f fd ["edit"] (sp_edit_numbers K) := by
  refine F.ok sc_edit_numbers (fun vs H Q E h => ?_) (fun cdv A outer s H0 vs Q E hr h => ?_)
  · obtain ⟨_, _, _, _, rfl, _⟩ := h; rfl
  · obtain ⟨B0, v_edit, a_edit, w, rfl, r_edit, P⟩ := h
    have w0 := w
    have hu := hu_of hr
    have hu64 := hu64_of hr
    have hu65 := hu65_of hr
    refine ⟨_, (pss_cons (ps_asg (pv 0) (pg_tupK (K := K) (n := 3) rfl rfl (pgs_cons (pg_name (i := 1) sc_edit_numbers.nd rfl (by first | exact Or.inl rfl | exact Or.inr rfl)) (pgs_cons (pg_name (i := 2) sc_edit_numbers.nd rfl (by first | exact Or.inl rfl | exact Or.inr rfl)) (pgs_cons (pg_name (i := 3) sc_edit_numbers.nd rfl (by first | exact Or.inl rfl | exact Or.inr rfl)) pgs_nil)))))
      (pss_cons (ps_if (pt_cmpR op_isNn (pv 2) pe_non (nomark _)) (pss_one (ps_ret (pe_op (r := rCatQ K) op_catQ (pe_callTy (r := rListY K) cr_list (by rfl) bI_list Y.boot_list (pa_cons (pv 1) pa_nil)) (pe_lst (pa_cons pe_int pa_nil))))) pss_nil)
      (pss_one (ps_ret (pe_op (r := rCatQ K) op_catQ (pe_op (r := rCatQ K) op_catQ (pe_op (r := rCatQ K) op_catQ (pe_callTy (r := rListY K) cr_list (by rfl) bI_list Y.boot_list (pa_cons (pv 1) pa_nil)) (pe_lst (pa_cons pe_int pa_nil))) (pe_callTy (r := rListY K) cr_list (by rfl) bI_list Y.boot_list (pa_cons (pv 2) pa_nil))) (pe_callTy (r := rListY K) cr_list (by rfl) bI_list Y.boot_list (pa_cons (pv 3) pa_nil))))))), ?_⟩
    unfold m_edit_numbers at P
    have st := Stp.refl (W := []) w
    refine h_seq ?_
    refine h_asg ?_
    refine h_var rfl ?_
    obtain ⟨l1, hl2, P⟩ := P.asT
    have rc3 := (r_edit.mono st.ex)
    rw [hl2] at rc3
    obtain ⟨p4, xs5, rfl, hs6, hr7⟩ := Rep.st w rc3
    obtain ⟨gd, P⟩ := P.guard
    refine h_tupG hs6 (by rw [hr7.length, List.length_map]; exact gd) ?_
    obtain ⟨x9, hx10, P⟩ := P.ix
    obtain ⟨u11, huu11, r12⟩ := RepL.atE hr7 hx10
    obtain ⟨x13, hx14, P⟩ := P.ix
    obtain ⟨u15, huu15, r16⟩ := RepL.atE hr7 hx14
    obtain ⟨x17, hx18, P⟩ := P.ix
    obtain ⟨u19, huu19, r20⟩ := RepL.atE hr7 hx18
    obtain rfl : xs5 = [u11, u15, u19] := tup3 (by rw [hr7.length, List.length_map]; exact gd) huu11 huu15 huu19
    refine h_gcons ?_
    refine h_gname ?_
    refine h_gcons ?_
    refine h_gname ?_
    refine h_gcons ?_
    refine h_gname ?_
    refine h_gnil ?_
    refine h_nx ?_
    refine h_seq <| h_if ?_
    refine h_test ?_
    refine h_op ?_
    refine h_var rfl ?_
    refine h_c ?_
    refine h_isN r16 ?_
    refine h_bl ?_
    refine h_ite (fun c1 => ?_) (fun c1 => ?_)
    · replace P := P.iteT c1
      refine h_ret ?_
      refine h_op ?_
      refine h_cb ?_
      refine h_cons ?_
      refine h_var rfl ?_
      refine h_nil ?_
      obtain ⟨l21, hn22, hl23, P⟩ := P.asIs
      have rc24 := r12
      rw [hl23] at rc24
      obtain ⟨p25, xs26, rfl, hs27, hr28⟩ := Rep.st w rc24
      refine h_listT hs27 ?_
      refine h_nwL w (ds := (l21).map enc) (K := K) hr28 (fun p29 B30 H31 s32 r33 => ?_) 
      replace r12 := r12.mono s32.ex
      replace r16 := r16.mono s32.ex
      replace r20 := r20.mono s32.ex
      replace st := st.go s32 go0
      replace w := s32.ok
      replace r33 : Rep K B30 (.ref p29) (enc l21) := r33
      refine h_lst ?_
      refine h_cons ?_
      refine h_c ?_
      refine h_nil ?_
      refine h_newL w (ds := (([0] : List Int)).map enc) (K := K) (.cons (Rep.int _) .nil) (fun p34 B35 H36 s37 r38 => ?_) (by show 1 ≤ sizeLine; decide)
      replace r12 := r12.mono s37.ex
      replace r16 := r16.mono s37.ex
      replace r20 := r20.mono s37.ex
      replace r33 := r33.mono s37.ex
      replace st := st.go s37 go0
      replace w := s37.ok
      replace r38 : Rep K B35 (.ref p34) (enc ([0] : List Int)) := r38
      obtain ⟨p39, xs40, hv, hs41, hr42⟩ := Rep.sq w r33
      cases hv
      obtain ⟨p43, xs44, hv, hs45, hr46⟩ := Rep.sq w r38
      cases hv
      obtain ⟨gd, P⟩ := P.guard
      refine h_cat hs41 hs45 (by have g := gd; simp only [hr42.length, hr46.length, List.length_map] at g ⊢; exact Nat.le_trans g (by decide)) ?_
      refine h_nwM w (ds := ((l21 ++ ([0] : List Int))).map enc) (K := K) (RepL.cat hr42 hr46) (fun p47 H48 hn51 s49 m50 => ?_) 
      have n52 := st.nn hn51
      replace r12 := r12.mono s49.ex
      replace r16 := r16.mono s49.ex
      replace r20 := r20.mono s49.ex
      replace st := st.go s49 go0
      replace w := s49.ok
      exact P.ok _ _ _ st n52 m50
    · replace P := P.iteF c1
      refine h_next ?_
      refine h_nx ?_
      refine h_ret ?_
      refine h_op ?_
      refine h_op ?_
      refine h_op ?_
      refine h_cb ?_
      refine h_cons ?_
      refine h_var rfl ?_
      refine h_nil ?_
      obtain ⟨l53, hn54, hl55, P⟩ := P.asIs
      have rc56 := r12
      rw [hl55] at rc56
      obtain ⟨p57, xs58, rfl, hs59, hr60⟩ := Rep.st w rc56
      refine h_listT hs59 ?_
      refine h_nwL w (ds := (l53).map enc) (K := K) hr60 (fun p61 B62 H63 s64 r65 => ?_) 
      replace r12 := r12.mono s64.ex
      replace r16 := r16.mono s64.ex
      replace r20 := r20.mono s64.ex
      replace st := st.go s64 go0
      replace w := s64.ok
      replace r65 : Rep K B62 (.ref p61) (enc l53) := r65
      refine h_lst ?_
      refine h_cons ?_
      refine h_c ?_
      refine h_nil ?_
      refine h_newL w (ds := (([1] : List Int)).map enc) (K := K) (.cons (Rep.int _) .nil) (fun p66 B67 H68 s69 r70 => ?_) (by show 1 ≤ sizeLine; decide)
      replace r12 := r12.mono s69.ex
      replace r16 := r16.mono s69.ex
      replace r20 := r20.mono s69.ex
      replace r65 := r65.mono s69.ex
      replace st := st.go s69 go0
      replace w := s69.ok
      replace r70 : Rep K B67 (.ref p66) (enc ([1] : List Int)) := r70
      obtain ⟨p71, xs72, hv, hs73, hr74⟩ := Rep.sq w r65
      cases hv
      obtain ⟨p75, xs76, hv, hs77, hr78⟩ := Rep.sq w r70
      cases hv
      obtain ⟨gd, P⟩ := P.guard
      refine h_cat hs73 hs77 (by have g := gd; simp only [hr74.length, hr78.length, List.length_map] at g ⊢; exact Nat.le_trans g (by decide)) ?_
      refine h_nwL w (ds := ((l53 ++ ([1] : List Int))).map enc) (K := K) (RepL.cat hr74 hr78) (fun p79 B80 H81 s82 r83 => ?_) 
      replace r12 := r12.mono s82.ex
      replace r16 := r16.mono s82.ex
      replace r20 := r20.mono s82.ex
      replace st := st.go s82 go0
      replace w := s82.ok
      replace r83 : Rep K B80 (.ref p79) (enc (l53 ++ ([1] : List Int))) := r83
      refine h_cb ?_
      refine h_cons ?_
      refine h_var rfl ?_
      refine h_nil ?_
      obtain ⟨l84, hn85, hl86, P⟩ := P.asIs
      have rc87 := r16
      rw [hl86] at rc87
      obtain ⟨p88, xs89, rfl, hs90, hr91⟩ := Rep.st w rc87
      refine h_listT hs90 ?_
      refine h_nwL w (ds := (l84).map enc) (K := K) hr91 (fun p92 B93 H94 s95 r96 => ?_) 
      replace r12 := r12.mono s95.ex
      replace r16 := r16.mono s95.ex
      replace r20 := r20.mono s95.ex
      replace r83 := r83.mono s95.ex
      replace st := st.go s95 go0
      replace w := s95.ok
      replace r96 : Rep K B93 (.ref p92) (enc l84) := r96
      obtain ⟨p97, xs98, hv, hs99, hr100⟩ := Rep.sq w r83
      cases hv
      obtain ⟨p101, xs102, hv, hs103, hr104⟩ := Rep.sq w r96
      cases hv
      obtain ⟨gd, P⟩ := P.guard
      refine h_cat hs99 hs103 (by have g := gd; simp only [hr100.length, hr104.length, List.length_map] at g ⊢; exact Nat.le_trans g (by decide)) ?_
      refine h_nwL w (ds := (((l53 ++ ([1] : List Int)) ++ l84)).map enc) (K := K) (RepL.cat hr100 hr104) (fun p105 B106 H107 s108 r109 => ?_) 
      replace r12 := r12.mono s108.ex
      replace r16 := r16.mono s108.ex
      replace r20 := r20.mono s108.ex
      replace st := st.go s108 go0
      replace w := s108.ok
      replace r109 : Rep K B106 (.ref p105) (enc ((l53 ++ ([1] : List Int)) ++ l84)) := r109
      refine h_cb ?_
      refine h_cons ?_
      refine h_var rfl ?_
      refine h_nil ?_
      obtain ⟨l110, hn111, hl112, P⟩ := P.asIs
      have rc113 := r20
      rw [hl112] at rc113
      obtain ⟨p114, xs115, rfl, hs116, hr117⟩ := Rep.st w rc113
      refine h_listT hs116 ?_
      refine h_nwL w (ds := (l110).map enc) (K := K) hr117 (fun p118 B119 H120 s121 r122 => ?_) 
      replace r12 := r12.mono s121.ex
      replace r16 := r16.mono s121.ex
      replace r20 := r20.mono s121.ex
      replace r109 := r109.mono s121.ex
      replace st := st.go s121 go0
      replace w := s121.ok
      replace r122 : Rep K B119 (.ref p118) (enc l110) := r122
      obtain ⟨p123, xs124, hv, hs125, hr126⟩ := Rep.sq w r109
      cases hv
      obtain ⟨p127, xs128, hv, hs129, hr130⟩ := Rep.sq w r122
      cases hv
      obtain ⟨gd, P⟩ := P.guard
      refine h_cat hs125 hs129 (by have g := gd; simp only [hr126.length, hr130.length, List.length_map] at g ⊢; exact Nat.le_trans g (by decide)) ?_
      refine h_nwM w (ds := ((((l53 ++ ([1] : List Int)) ++ l84) ++ l110)).map enc) (K := K) (RepL.cat hr126 hr130) (fun p131 H132 hn135 s133 m134 => ?_) 
      have n136 := st.nn hn135
      replace r12 := r12.mono s133.ex
      replace r16 := r16.mono s133.ex
      replace r20 := r20.mono s133.ex
      replace st := st.go s133 go0
      replace w := s133.ok
      exact P.ok _ _ _ st n136 m134
theorem ok_is_head_lane {f : Addr} {fd : FuncData}  (F : Fun K "is_head_lane" "is_head_lane" s_is_head_lane f fd) {f_is_whole : Addr} {d_is_whole : FuncData} (g_is_whole : mg "is_whole" = some (.ref f_is_whole)) (k_is_whole : PySem.W.keepIn K (.ref f_is_whole) = true) (b_is_whole : L2.Binds K d_is_whole ["thing", "low", "high"] []) (G_is_whole : FnOk Pr wo K mg base CX0 1 f_is_whole d_is_whole ["thing", "low", "high"] (sp_is_whole K)) {f_are_lane_edits : Addr} {d_are_lane_edits : FuncData} (g_are_lane_edits : mg "are_lane_edits" = some (.ref f_are_lane_edits)) (k_are_lane_edits : PySem.W.keepIn K (.ref f_are_lane_edits) = true) (b_are_lane_edits : L2.Binds K d_are_lane_edits ["thing"] []) (G_are_lane_edits : FnOk Pr wo K mg base CX0 6 f_are_lane_edits d_are_lane_edits ["thing"] (sp_are_lane_edits K)) (bI_isinstance : mg "isinstance" = none) (bI_tuple : mg "tuple" = none) (bI_len : mg "len" = none) : FnOk Pr wo K mg base CX0 7 f fd ["thing"] (sp_is_head_lane K) := by
  refine F.ok sc_is_head_lane (fun vs H Q E h => ?_) (fun cdv A outer s H0 vs Q E hr h => ?_)
  · obtain ⟨_, _, _, _, rfl, _⟩ := h; rfl
  · obtain ⟨B0, v_thing, a_thing, w, rfl, r_thing, P⟩ := h
    have w0 := w
    have hu := hu_of hr
    have hu64 := hu64_of hr
    have hu65 := hu65_of hr
    have hr1 : Room 1 _ := hr.mono (by decide)
    have hr6 : Room 6 _ := hr.mono (by decide)
    refine ⟨_, (pss_cons (ps_if (PW.pt (pw_or (pt_not (pt_val (pe_callB (r := rIsi K) call_isi (by rfl) bI_isinstance PyProof.Rows.boot_isinstance (pa_cons (pv 0) (pa_cons (pe_bltn (v := .ty "tuple") (by rfl) bI_tuple Y.boot_tuple rfl) pa_nil))))) (pw_or1 (pt_cmpR op_ne (pe_callB (r := rLenY K) cr_len (by rfl) bI_len PySem.boot_len (pa_cons (pv 0) pa_nil)) pe_int (nomark _))))) (pss_one (ps_ret pe_bl)) pss_nil)
      (pss_one (ps_ret (pe_and (pe_call G_is_whole hr1 rfl g_is_whole k_is_whole b_is_whole .nil pass0 (pa_cons (pe_ix (r := rIxT K) ix_tup (pv 0) pe_int (fun _ _ => rfl)) (pa_cons pe_int (pa_cons (pe_op op_pow pe_int pe_int) pa_nil)))) (pe_and (pe_call G_is_whole hr1 rfl g_is_whole k_is_whole b_is_whole .nil pass0 (pa_cons (pe_ix (r := rIxT K) ix_tup (pv 0) pe_int (fun _ _ => rfl)) (pa_cons pe_int (pa_cons pe_int pa_nil)))) (pe_one (pe_call G_are_lane_edits hr6 rfl g_are_lane_edits k_are_lane_edits b_are_lane_edits .nil pass0 (pa_cons (pe_ix (r := rIxT K) ix_tup (pv 0) pe_int (fun _ _ => rfl)) pa_nil)))))))), ?_⟩
    unfold m_is_head_lane at P
    have st := Stp.refl (W := []) w
    refine h_seq <| h_if ?_
    refine h_tor ?_
    refine h_tnot ?_
    refine h_tB ?_
    refine h_cb ?_
    refine h_cons ?_
    refine h_var rfl ?_
    refine h_cons ?_
    refine h_c ?_
    refine h_nil ?_
    refine isi (t := "tuple") w (r_thing.mono st.ex) ?_
    refine h_bl ?_
    refine h_iteN (fun c1 => ?_) (fun c1 => ?_)
    · replace P := P.iteF c1
      refine h_iteT ?_
      refine h_ret ?_
      refine h_c ?_
      exact P.ok _ _ _ st (Rep.bl _)
    · replace P := P.iteT c1
      refine h_test ?_
      refine h_op ?_
      refine h_cb ?_
      refine h_cons ?_
      refine h_var rfl ?_
      refine h_nil ?_
      obtain ⟨l1, hl2, P⟩ := P.asT
      have rc3 := (r_thing.mono st.ex)
      rw [hl2] at rc3
      obtain ⟨p4, xs5, rfl, hs6, hr7⟩ := Rep.st w rc3
      refine h_lenTl hs6 hr7 ?_
      refine h_c ?_
      refine h_neI ?_
      refine h_bl ?_
      refine h_ite (fun c1 => ?_) (fun c1 => ?_)
      · replace P := P.iteT c1
        refine h_ret ?_
        refine h_c ?_
        exact P.ok _ _ _ st (Rep.bl _)
      · replace P := P.iteF c1
        refine h_next ?_
        refine h_nx ?_
        refine h_ret ?_
        refine h_and ?_
        refine h_call ?_
        refine h_cons ?_
        refine h_op ?_
        refine h_var rfl ?_
        refine h_c ?_
        obtain ⟨l8, hl9, P⟩ := P.asT
        have rc10 := (r_thing.mono st.ex)
        rw [hl9] at rc10
        obtain ⟨p11, xs12, hv, hs13, hr14⟩ := Rep.st w rc10
        cases hv
        obtain ⟨x15, hx16, P⟩ := P.ix
        obtain ⟨u17, hu, r18⟩ := RepL.atE hr14 hx16
        refine h_ixT hs13 hu ?_
        refine h_cons ?_
        refine h_c ?_
        refine h_cons ?_
        refine h_op (h_c (h_c (h_pow (k := 1000000) (by decide +kernel) (by decide +kernel) ?_)))
        refine h_nil ?_
        refine ⟨B0, u17, x15, 1, 1000000, w, rfl, r18, (P.bind).mono (fun x19 P => ?_) (fun _ z => z)⟩
        refine fun v23 B20 H21 s22 r24 => ?_
        replace r18 := r18.mono s22.ex
        replace st := st.go s22 go0
        replace w := s22.ok
        cases r24
        refine h_bl ?_
        refine h_ite (fun c1 => ?_) (fun c1 => ?_)
        · replace P := P.iteT c1
          refine h_and ?_
          refine h_call ?_
          refine h_cons ?_
          refine h_op ?_
          refine h_var rfl ?_
          refine h_c ?_
          obtain ⟨l25, hl26, P⟩ := P.asT
          have rc27 := (r_thing.mono st.ex)
          rw [hl26] at rc27
          obtain ⟨p28, xs29, hv, hs30, hr31⟩ := Rep.st w rc27
          cases hv
          obtain ⟨x32, hx33, P⟩ := P.ix
          obtain ⟨u34, hu, r35⟩ := RepL.atE hr31 hx33
          refine h_ixT hs30 hu ?_
          refine h_cons ?_
          refine h_c ?_
          refine h_cons ?_
          refine h_c ?_
          refine h_nil ?_
          refine ⟨B20, u34, x32, 0, 200, w, rfl, r35, (P.bind).mono (fun x36 P => ?_) (fun _ z => z)⟩
          refine fun v40 B37 H38 s39 r41 => ?_
          replace r35 := r35.mono s39.ex
          replace st := st.go s39 go0
          replace w := s39.ok
          cases r41
          refine h_bl ?_
          refine h_ite (fun c1 => ?_) (fun c1 => ?_)
          · replace P := P.iteT c1
            refine h_call ?_
            refine h_cons ?_
            refine h_op ?_
            refine h_var rfl ?_
            refine h_c ?_
            obtain ⟨l42, hl43, P⟩ := P.asT
            have rc44 := (r_thing.mono st.ex)
            rw [hl43] at rc44
            obtain ⟨p45, xs46, hv, hs47, hr48⟩ := Rep.st w rc44
            cases hv
            obtain ⟨x49, hx50, P⟩ := P.ix
            obtain ⟨u51, hu, r52⟩ := RepL.atE hr48 hx50
            refine h_ixT hs47 hu ?_
            refine h_nil ?_
            refine ⟨B37, u51, x49, w, rfl, r52, (P.bind).mono (fun x53 P => ?_) (fun _ z => z)⟩
            refine fun v57 B54 H55 s56 r58 => ?_
            replace r52 := r52.mono s56.ex
            replace st := st.go s56 go0
            replace w := s56.ok
            cases r58
            exact P.ok _ _ _ st (Rep.bl _)
          · replace P := P.iteF c1
            exact P.ok _ _ _ st (Rep.bl _)
        · replace P := P.iteF c1
          exact P.ok _ _ _ st (Rep.bl _)
theorem ok_is_head {f : Addr} {fd : FuncData}  (F : Fun K "is_head" "is_head" s_is_head f fd) {f_is_whole : Addr} {d_is_whole : FuncData} (g_is_whole : mg "is_whole" = some (.ref f_is_whole)) (k_is_whole : PySem.W.keepIn K (.ref f_is_whole) = true) (b_is_whole : L2.Binds K d_is_whole ["thing", "low", "high"] []) (G_is_whole : FnOk Pr wo K mg base CX0 1 f_is_whole d_is_whole ["thing", "low", "high"] (sp_is_whole K)) {f_is_head_lane : Addr} {d_is_head_lane : FuncData} (g_is_head_lane : mg "is_head_lane" = some (.ref f_is_head_lane)) (k_is_head_lane : PySem.W.keepIn K (.ref f_is_head_lane) = true) (b_is_head_lane : L2.Binds K d_is_head_lane ["thing"] []) (G_is_head_lane : FnOk Pr wo K mg base CX0 7 f_is_head_lane d_is_head_lane ["thing"] (sp_is_head_lane K)) (bI_all : mg "all" = none) (bI_isinstance : mg "isinstance" = none) (bI_tuple : mg "tuple" = none) (bI_len : mg "len" = none) (bI_list : mg "list" = none) : FnOk Pr wo K mg base CX0 8 f fd ["thing"] (sp_is_head K) := by
  refine F.ok sc_is_head (fun vs H Q E h => ?_) (fun cdv A outer s H0 vs Q E hr h => ?_)
  · obtain ⟨_, _, _, _, rfl, _⟩ := h; rfl
  · obtain ⟨B0, v_thing, a_thing, w, rfl, r_thing, P⟩ := h
    have w0 := w
    have hu := hu_of hr
    have hu64 := hu64_of hr
    have hu65 := hu65_of hr
    have hr1 : Room 1 _ := hr.mono (by decide)
    have hr7 : Room 7 _ := hr.mono (by decide)
    refine ⟨_, (pss_cons (ps_if (PW.pt (pw_or (pt_not (pt_val (pe_callB (r := rIsi K) call_isi (by rfl) bI_isinstance PyProof.Rows.boot_isinstance (pa_cons (pv 0) (pa_cons (pe_bltn (v := .ty "tuple") (by rfl) bI_tuple Y.boot_tuple rfl) pa_nil))))) (pw_or (pt_cmpR op_ne (pe_callB (r := rLenY K) cr_len (by rfl) bI_len PySem.boot_len (pa_cons (pv 0) pa_nil)) pe_int (nomark _)) (pw_or1 (pt_not (pt_val (pe_call G_is_whole hr1 rfl g_is_whole k_is_whole b_is_whole .nil pass0 (pa_cons (pe_ix (r := rIxT K) ix_tup (pv 0) pe_int (fun _ _ => rfl)) (pa_cons pe_int (pa_cons (pe_op op_pow pe_int pe_int) pa_nil)))))))))) (pss_one (ps_ret pe_bl)) pss_nil)
      (pss_cons (ps_if (PW.pt (pw_or (pt_not (pt_val (pe_call G_is_whole hr1 rfl g_is_whole k_is_whole b_is_whole .nil pass0 (pa_cons (pe_ix (r := rIxT K) ix_tup (pv 0) pe_int (fun _ _ => rfl)) (pa_cons pe_int (pa_cons pe_int pa_nil)))))) (pw_or (pt_not (pt_val (pe_callB (r := rIsi K) call_isi (by rfl) bI_isinstance PyProof.Rows.boot_isinstance (pa_cons (pe_ix (r := rIxT K) ix_tup (pv 0) pe_int (fun _ _ => rfl)) (pa_cons (pe_bltn (v := .ty "list") (by rfl) bI_list Y.boot_list rfl) pa_nil))))) (pw_or1 (pt_not (pt_chain op_le op_le pe_int (pe_callB (r := rLenY K) cr_len (by rfl) bI_len PySem.boot_len (pa_cons (pe_ix (r := rIxT K) ix_tup (pv 0) pe_int (fun _ _ => rfl)) pa_nil)) pe_int)))))) (pss_one (ps_ret pe_bl)) pss_nil)
      (pss_one (ps_ret (pe_callB (r := rAll K) (cr_all rfl) (by rfl) bI_all PyProof.Rows.boot_all (pa_cons (pe_lc (own := [("lane", 1)]) rfl sc_is_head.nd (pi_list (pe_ix (r := rIxT K) ix_tup (pv 0) pe_int (fun _ _ => rfl))) (blkOk_by (N := ["thing", "lane"]) (sc := defScope s_is_head) (by decide +kernel)) (fun _ _ _ _ _ => (pg_name (i := 1) sc_is_head.nd rfl (by first | exact Or.inl rfl | exact Or.inr rfl))) (fun _ _ _ _ _ => pts_nil) (fun _ _ _ _ _ => (pe_call G_is_head_lane hr7 rfl g_is_head_lane k_is_head_lane b_is_head_lane .nil pass0 (pa_cons (pv 1) pa_nil)))) pa_nil)))))), ?_⟩
    unfold m_is_head at P
    have st := Stp.refl (W := []) w
    refine h_seq <| h_if ?_
    refine h_tor ?_
    refine h_tnot ?_
    refine h_tB ?_
    refine h_cb ?_
    refine h_cons ?_
    refine h_var rfl ?_
    refine h_cons ?_
    refine h_c ?_
    refine h_nil ?_
    refine isi (t := "tuple") w (r_thing.mono st.ex) ?_
    refine h_bl ?_
    refine h_iteN (fun c1 => ?_) (fun c1 => ?_)
    · replace P := P.iteF c1
      refine h_iteT ?_
      refine h_ret ?_
      refine h_c ?_
      exact P.ok _ _ _ st (Rep.bl _)
    · replace P := P.iteT c1
      refine h_tor ?_
      refine h_test ?_
      refine h_op ?_
      refine h_cb ?_
      refine h_cons ?_
      refine h_var rfl ?_
      refine h_nil ?_
      obtain ⟨l1, hl2, P⟩ := P.asT
      have rc3 := (r_thing.mono st.ex)
      rw [hl2] at rc3
      obtain ⟨p4, xs5, rfl, hs6, hr7⟩ := Rep.st w rc3
      refine h_lenTl hs6 hr7 ?_
      refine h_c ?_
      refine h_neI ?_
      refine h_bl ?_
      refine h_ite (fun c1 => ?_) (fun c1 => ?_)
      · replace P := P.iteT c1
        refine h_iteT ?_
        refine h_ret ?_
        refine h_c ?_
        exact P.ok _ _ _ st (Rep.bl _)
      · replace P := P.iteF c1
        refine h_tnot ?_
        refine h_tB ?_
        refine h_call ?_
        refine h_cons ?_
        refine h_op ?_
        refine h_var rfl ?_
        refine h_c ?_
        obtain ⟨l8, hl9, P⟩ := P.asT
        have rc10 := (r_thing.mono st.ex)
        rw [hl9] at rc10
        obtain ⟨p11, xs12, hv, hs13, hr14⟩ := Rep.st w rc10
        cases hv
        obtain ⟨x15, hx16, P⟩ := P.ix
        obtain ⟨u17, hu, r18⟩ := RepL.atE hr14 hx16
        refine h_ixT hs13 hu ?_
        refine h_cons ?_
        refine h_c ?_
        refine h_cons ?_
        refine h_op (h_c (h_c (h_pow (k := 1000000000) (by decide +kernel) (by decide +kernel) ?_)))
        refine h_nil ?_
        refine ⟨B0, u17, x15, 0, 1000000000, w, rfl, r18, (P.bind).mono (fun x19 P => ?_) (fun _ z => z)⟩
        refine fun v23 B20 H21 s22 r24 => ?_
        replace r18 := r18.mono s22.ex
        replace st := st.go s22 go0
        replace w := s22.ok
        cases r24
        refine h_bl ?_
        refine h_iteN (fun c1 => ?_) (fun c1 => ?_)
        · replace P := P.iteF c1
          refine h_ret ?_
          refine h_c ?_
          exact P.ok _ _ _ st (Rep.bl _)
        · replace P := P.iteT c1
          refine h_next ?_
          refine h_nx ?_
          refine h_seq <| h_if ?_
          refine h_tor ?_
          refine h_tnot ?_
          refine h_tB ?_
          refine h_call ?_
          refine h_cons ?_
          refine h_op ?_
          refine h_var rfl ?_
          refine h_c ?_
          obtain ⟨l25, hl26, P⟩ := P.asT
          have rc27 := (r_thing.mono st.ex)
          rw [hl26] at rc27
          obtain ⟨p28, xs29, hv, hs30, hr31⟩ := Rep.st w rc27
          cases hv
          obtain ⟨x32, hx33, P⟩ := P.ix
          obtain ⟨u34, hu, r35⟩ := RepL.atE hr31 hx33
          refine h_ixT hs30 hu ?_
          refine h_cons ?_
          refine h_c ?_
          refine h_cons ?_
          refine h_c ?_
          refine h_nil ?_
          refine ⟨B20, u34, x32, 1, 16, w, rfl, r35, (P.bind).mono (fun x36 P => ?_) (fun _ z => z)⟩
          refine fun v40 B37 H38 s39 r41 => ?_
          replace r35 := r35.mono s39.ex
          replace st := st.go s39 go0
          replace w := s39.ok
          cases r41
          refine h_bl ?_
          refine h_iteN (fun c1 => ?_) (fun c1 => ?_)
          · replace P := P.iteF c1
            refine h_iteT ?_
            refine h_ret ?_
            refine h_c ?_
            exact P.ok _ _ _ st (Rep.bl _)
          · replace P := P.iteT c1
            refine h_tor ?_
            refine h_tnot ?_
            refine h_tB ?_
            refine h_cb ?_
            refine h_cons ?_
            refine h_op ?_
            refine h_var rfl ?_
            refine h_c ?_
            obtain ⟨l42, hl43, P⟩ := P.asT
            have rc44 := (r_thing.mono st.ex)
            rw [hl43] at rc44
            obtain ⟨p45, xs46, hv, hs47, hr48⟩ := Rep.st w rc44
            cases hv
            obtain ⟨x49, hx50, P⟩ := P.ix
            obtain ⟨u51, hu, r52⟩ := RepL.atE hr48 hx50
            refine h_ixT hs47 hu ?_
            refine h_cons ?_
            refine h_c ?_
            refine h_nil ?_
            refine isi (t := "list") w r52 ?_
            refine h_bl ?_
            refine h_iteN (fun c1 => ?_) (fun c1 => ?_)
            · replace P := P.iteF c1
              refine h_iteT ?_
              refine h_ret ?_
              refine h_c ?_
              exact P.ok _ _ _ st (Rep.bl _)
            · replace P := P.iteT c1
              refine h_tnot ?_
              refine h_test ?_
              refine h_chain ?_
              refine h_c ?_
              refine h_cb ?_
              refine h_cons ?_
              refine h_op ?_
              refine h_var rfl ?_
              refine h_c ?_
              obtain ⟨l53, hl54, P⟩ := P.asT
              have rc55 := (r_thing.mono st.ex)
              rw [hl54] at rc55
              obtain ⟨p56, xs57, hv, hs58, hr59⟩ := Rep.st w rc55
              cases hv
              obtain ⟨x60, hx61, P⟩ := P.ix
              obtain ⟨u62, hu, r63⟩ := RepL.atE hr59 hx61
              refine h_ixT hs58 hu ?_
              refine h_nil ?_
              obtain ⟨l64, hl65, P⟩ := P.asL
              have rc66 := r63
              rw [hl65] at rc66
              obtain ⟨p67, xs68, rfl, hs69, hr70⟩ := Rep.sq w rc66
              refine h_len hs69 hr70 ?_
              refine h_I0 ?_
              refine h_bl ?_
              refine h_ite (fun c1 => ?_) (fun c1 => ?_)
              · replace P := P.iteT c1
                refine h_c ?_
                refine h_I0 ?_
                refine h_bl ?_
                refine h_iteN (fun c1 => ?_) (fun c1 => ?_)
                · replace P := P.iteF c1
                  refine h_ret ?_
                  refine h_c ?_
                  exact P.ok _ _ _ st (Rep.bl _)
                · replace P := P.iteT c1
                  refine h_next ?_
                  refine h_nx ?_
                  refine h_ret ?_
                  refine h_cb ?_
                  refine h_cons ?_
                  refine h_lcE ?_
                  refine h_op ?_
                  refine h_var rfl ?_
                  refine h_c ?_
                  obtain ⟨l71, hl72, P⟩ := P.asT
                  have rc73 := (r_thing.mono st.ex)
                  rw [hl72] at rc73
                  obtain ⟨p74, xs75, hv, hs76, hr77⟩ := Rep.st w rc73
                  cases hv
                  obtain ⟨x78, hx79, P⟩ := P.ix
                  obtain ⟨u80, hu, r81⟩ := RepL.atE hr77 hx79
                  refine h_ixT hs76 hu ?_
                  obtain ⟨l82, hl83, P⟩ := P.asL
                  have rc84 := r81
                  rw [hl83] at rc84
                  obtain ⟨p85, xs86, rfl, hb87, hr88⟩ := Rep.sqB rc84
                  refine h_lcL P (w.l hb87) hr88 (fun Dl (acc : List Bool) (a : Unit) H' => ∃ B', Stp [] B37 H38 B' H' ∧ H38 Dl = none ∧ Mu K B' H' Dl (acc.map enc)) (fun Dl hD => ⟨_, Stp.newM w hD, hD, Mu.new w hD .nil⟩) (fun _ _ _ _ j => ?_) ?_ ?_
                  · obtain ⟨B98, s99, hD100, m101⟩ := j
                    exact s99.ok.l (s99.ex.l hb87)
                  · rintro Dl89 N90 T91 x92 v93 acc95 a96 H97 ⟨B98, s99, hD100, m101⟩ r94 hz102 kk103 kn104 P
                    have wj106 := w
                    have sj105 := s99
                    have n107 := st.nn hD100
                    replace st := st.go s99 go0
                    replace w := s99.ok
                    replace r94 := r94.mono s99.ex
                    refine h_gname ?_
                    refine h_lcT rfl ?_
                    refine h_call ?_
                    refine h_cons ?_
                    refine h_var rfl ?_
                    refine h_nil ?_
                    refine ⟨B98, v93, x92, w, rfl, r94, (P.bind).mono (fun x108 P => ?_) (fun _ z => z)⟩
                    refine fun v112 B109 H110 s111 r113 => ?_
                    replace r94 := r94.mono s111.ex
                    replace m101 := m101.step s111 nm0
                    replace st := st.go s111 go0
                    replace sj105 := sj105.go s111 go0
                    replace w := s111.ok
                    cases r113
                    refine h_app (b := x108) w m101 (Rep.bl _) hz102 (fun H114 s115 m101 => ?_)
                    replace r94 := r94.mono s115.ex
                    replace st := st.go s115 (go1 (.inr n107))
                    replace sj105 := sj105.go s115 (go1 (.inr hD100))
                    replace w := s115.ok
                    exact kk103 x108 () _ ⟨_, sj105, hD100, m101⟩ P.ok
                  · rintro Dl89 acc95 a96 H97 ⟨B98, s99, hD100, m101⟩ P
                    have n116 := st.nn hD100
                    replace st := st.go s99 go0
                    replace w := s99.ok
                    replace P := P.un2
                    obtain ⟨B121, e117, k118, g119, r120⟩ := Mu.keep m101
                    replace st := g119 _ _ _ st w0 n116
                    replace w := st.ok
                    replace r120 : Rep K B121 (.ref Dl89) (enc acc95) := r120
                    refine h_nil ?_
                    obtain ⟨p122, xs123, hv, hs124, hr125⟩ := Rep.sq w r120
                    cases hv
                    refine h_all hs124 hr125 ?_
                    exact P.ok _ _ _ st (Rep.bl _)
              · replace P := P.iteF c1
                refine h_bl ?_
                refine h_iteNF ?_
                refine h_ret ?_
                refine h_c ?_
                exact P.ok _ _ _ st (Rep.bl _)
theorem ok_head_body {f : Addr} {fd : FuncData}  (F : Fun K "head_body" "head_body" s_head_body f fd) {C_NoBody : Addr} (T_NoBody : ExcR K mg "NoBody" C_NoBody) {f_all_written : Addr} {d_all_written : FuncData} (g_all_written : mg "all_written" = some (.ref f_all_written)) (k_all_written : PySem.W.keepIn K (.ref f_all_written) = true) (b_all_written : L2.Binds K d_all_written ["numbers"] []) (G_all_written : FnOk Pr wo K mg base CX0 3 f_all_written d_all_written ["numbers"] (sp_all_written K)) {f_is_head : Addr} {d_is_head : FuncData} (g_is_head : mg "is_head" = some (.ref f_is_head)) (k_is_head : PySem.W.keepIn K (.ref f_is_head) = true) (b_is_head : L2.Binds K d_is_head ["thing"] []) (G_is_head : FnOk Pr wo K mg base CX0 8 f_is_head d_is_head ["thing"] (sp_is_head K)) {f_edit_numbers : Addr} {d_edit_numbers : FuncData} (g_edit_numbers : mg "edit_numbers" = some (.ref f_edit_numbers)) (k_edit_numbers : PySem.W.keepIn K (.ref f_edit_numbers) = true) (b_edit_numbers : L2.Binds K d_edit_numbers ["edit"] []) (G_edit_numbers : FnOk Pr wo K mg base CX0 1 f_edit_numbers d_edit_numbers ["edit"] (sp_edit_numbers K)) (bI_len : mg "len" = none) : FnOk Pr wo K mg base (L2.CX Pr wo) 9 f fd ["head"] (sp_head_body K mg) := by
  refine F.okX sc_head_body (fun vs H Q E h => ?_) (fun cdv A outer s H0 vs Q E hr h => ?_)
  · obtain ⟨_, _, _, _, rfl, _⟩ := h; rfl
  · obtain ⟨B0, v_head, a_head, w, rfl, r_head, P⟩ := h
    have w0 := w
    have hu := hu_of hr
    have hu64 := hu64_of hr
    have hu65 := hu65_of hr
    have hr1 : Room 1 _ := hr.mono (by decide)
    have hr3 : Room 3 _ := hr.mono (by decide)
    have hr8 : Room 8 _ := hr.mono (by decide)
    refine ⟨_, (pss_cons (ps_if (pt_not (pt_val (pe_call G_is_head hr8 rfl g_is_head k_is_head b_is_head .nil pass0 (pa_cons (pv 0) pa_nil)))) (pss_one (ps_raise rfl (takes_of rfl rfl rfl rfl) (pmk_own PySem.F.excBase_ValueError T_NoBody.ex T_NoBody.g T_NoBody.kp (raises_own T_NoBody.ec.hs T_NoBody.ty) rfl))) pss_nil)
      (pss_cons (ps_asg (pv 0) (pg_tupK (K := K) (n := 3) rfl rfl (pgs_cons (pg_name (i := 1) sc_head_body.nd rfl (by first | exact Or.inl rfl | exact Or.inr rfl)) (pgs_cons (pg_name (i := 2) sc_head_body.nd rfl (by first | exact Or.inl rfl | exact Or.inr rfl)) (pgs_cons (pg_name (i := 3) sc_head_body.nd rfl (by first | exact Or.inl rfl | exact Or.inr rfl)) pgs_nil)))))
      (pss_cons (ps_set (i := 4) sc_head_body.nd rfl (by first | exact Or.inl rfl | exact Or.inr rfl) (pe_lst (pa_cons (pv 1) (pa_cons (pv 2) (pa_cons (pe_callB (r := rLenY K) cr_len (by rfl) bI_len PySem.boot_len (pa_cons (pv 3) pa_nil)) pa_nil)))))
      (pss_cons (ps_for (passes_of rfl) rfl (pi_list (pv 3)) (pg_tupK (K := K) (n := 3) rfl rfl (pgs_cons (pg_name (i := 5) sc_head_body.nd rfl (by first | exact Or.inl rfl | exact Or.inr rfl)) (pgs_cons (pg_name (i := 6) sc_head_body.nd rfl (by first | exact Or.inl rfl | exact Or.inr rfl)) (pgs_cons (pg_name (i := 7) sc_head_body.nd rfl (by first | exact Or.inl rfl | exact Or.inr rfl)) pgs_nil)))) (pss_cons (ps_expr (pe_bm PySem.F.plainAttrs_list PySem.F.slot_list_extend PySem.F.type_list_extend mt_extend (pv 4) (pa_cons (pe_lst (pa_cons (pv 5) (pa_cons (pv 6) (pa_cons (pe_callB (r := rLenY K) cr_len (by rfl) bI_len PySem.boot_len (pa_cons (pv 7) pa_nil)) pa_nil)))) pa_nil)))
      (pss_one (ps_for (passes_of rfl) rfl (pi_list (pv 7)) (pg_name (i := 8) sc_head_body.nd rfl (by first | exact Or.inl rfl | exact Or.inr rfl)) (pss_one (ps_expr (pe_bm PySem.F.plainAttrs_list PySem.F.slot_list_extend PySem.F.type_list_extend mt_extend (pv 4) (pa_cons (pe_call G_edit_numbers hr1 rfl g_edit_numbers k_edit_numbers b_edit_numbers .nil pass0 (pa_cons (pv 8) pa_nil)) pa_nil))))))))
      (pss_one (ps_ret (pe_call G_all_written hr3 rfl g_all_written k_all_written b_all_written .nil pass0 (pa_cons (pv 4) pa_nil)))))))), ?_⟩
    unfold m_head_body at P
    have st := Stp.refl (W := []) w
    refine h_seq <| h_if ?_
    refine h_tnot ?_
    refine h_tB ?_
    refine h_call ?_
    refine h_cons ?_
    refine h_var rfl ?_
    refine h_nil ?_
    refine ⟨B0, v_head, a_head, w, rfl, (r_head.mono st.ex), (P.bind.noErr).mono (fun x1 P => ?_) (fun _ z => z.elim)⟩
    refine fun v5 B2 H3 s4 r6 => ?_
    replace st := st.go s4 go0
    replace w := s4.ok
    cases r6
    refine h_bl ?_
    refine h_iteN (fun c1 => ?_) (fun c1 => ?_)
    · replace P := P.iteF c1
      exact P.err _ _ _ T_NoBody.g st
    · replace P := P.iteT c1
      refine h_next ?_
      refine h_nx ?_
      refine h_seq ?_
      refine h_asg ?_
      refine h_var rfl ?_
      obtain ⟨l7, hl8, P⟩ := P.asT
      have rc9 := (r_head.mono st.ex)
      rw [hl8] at rc9
      obtain ⟨p10, xs11, rfl, hs12, hr13⟩ := Rep.st w rc9
      obtain ⟨gd, P⟩ := P.guard
      refine h_tupG hs12 (by rw [hr13.length, List.length_map]; exact gd) ?_
      obtain ⟨x15, hx16, P⟩ := P.ix
      obtain ⟨u17, huu17, r18⟩ := RepL.atE hr13 hx16
      obtain ⟨x19, hx20, P⟩ := P.ix
      obtain ⟨u21, huu21, r22⟩ := RepL.atE hr13 hx20
      obtain ⟨x23, hx24, P⟩ := P.ix
      obtain ⟨u25, huu25, r26⟩ := RepL.atE hr13 hx24
      obtain rfl : xs11 = [u17, u21, u25] := tup3 (by rw [hr13.length, List.length_map]; exact gd) huu17 huu21 huu25
      refine h_gcons ?_
      refine h_gname ?_
      refine h_gcons ?_
      refine h_gname ?_
      refine h_gcons ?_
      refine h_gname ?_
      refine h_gnil ?_
      refine h_nx ?_
      refine h_set ?_
      refine h_lst ?_
      refine h_cons ?_
      refine h_var rfl ?_
      refine h_cons ?_
      refine h_var rfl ?_
      refine h_cons ?_
      refine h_cb ?_
      refine h_cons ?_
      refine h_var rfl ?_
      refine h_nil ?_
      obtain ⟨l27, hl28, P⟩ := P.asL
      have rc29 := r26
      rw [hl28] at rc29
      obtain ⟨p30, xs31, rfl, hs32, hr33⟩ := Rep.sq w rc29
      refine h_len hs32 hr33 ?_
      refine h_nil ?_
      obtain ⟨i34, hi35, P⟩ := P.asI
      have rc36 := r18
      rw [hi35] at rc36
      cases rc36
      obtain ⟨i37, hi38, P⟩ := P.asI
      have rc39 := r22
      rw [hi38] at rc39
      cases rc39
      refine h_newM w (ds := (([i34, i37, (l27.length : Int)] : List Int)).map enc) (K := K) (.cons (Rep.int _) (.cons (Rep.int _) (.cons (Rep.int _) .nil))) (fun p40 H41 hn44 s42 m43 => ?_) (by show 3 ≤ sizeLine; decide)
      have n45 := st.nn hn44
      replace r18 := r18.mono s42.ex
      replace r22 := r22.mono s42.ex
      replace r26 := r26.mono s42.ex
      replace st := st.go s42 go0
      replace w := s42.ok
      refine h_seq ?_
      refine h_forE ?_
      refine h_var rfl ?_
      obtain ⟨l46, hl47, P⟩ := P.asL
      have rc48 := r26
      rw [hl47] at rc48
      obtain ⟨p49, xs50, hv, hb51, hr52⟩ := Rep.sqB rc48
      cases hv
      have wj54 := w
      have sj53 := Stp.refl (W := [p40]) w
      refine h_forL P (w.l hb51) hr52 (fun (a : (List Int)) σ' H' => ∃ (B' : Hp) (o_edit : Option V) (o_units : Option V) (o_count : Option V) (o_edits : Option V), Stp [p40] B2 H41 B' H' ∧ σ' = [some ((.ref p10)), some (.int i34), some (.int i37), some ((.ref p30)), some ((.ref p40)), o_units, o_count, o_edits, o_edit] ∧ Mu K B' H' p40 (a.map enc)) ⟨_, _, _, _, _, sj53, rfl, m43⟩ (fun _ _ _ j => ?_) ?_ ?_
      · obtain ⟨B64, o67, o68, o69, o70, s66, rfl, m43⟩ := j
        exact s66.ok.l (s66.ex.l hb51)
      · rintro N55 T56 x61 v62 a60 _ H65 ⟨B64, o67, o68, o69, o70, s66, rfl, m43⟩ r63 kk57 kr58 kb59 P
        replace r18 := r18.mono s66.ex
        replace r22 := r22.mono s66.ex
        replace r26 := r26.mono s66.ex
        replace st := st.go s66 (go1 (.inr n45))
        replace w := s66.ok
        have sj53 := s66
        replace r63 := r63.mono sj53.ex
        obtain ⟨l71, hl72, P⟩ := P.asT
        have rc73 := r63
        rw [hl72] at rc73
        obtain ⟨p74, xs75, rfl, hs76, hr77⟩ := Rep.st w rc73
        obtain ⟨gd, P⟩ := P.guard
        refine h_tupG hs76 (by rw [hr77.length, List.length_map]; exact gd) ?_
        obtain ⟨x79, hx80, P⟩ := P.ix
        obtain ⟨u81, huu81, r82⟩ := RepL.atE hr77 hx80
        obtain ⟨x83, hx84, P⟩ := P.ix
        obtain ⟨u85, huu85, r86⟩ := RepL.atE hr77 hx84
        obtain ⟨x87, hx88, P⟩ := P.ix
        obtain ⟨u89, huu89, r90⟩ := RepL.atE hr77 hx88
        obtain rfl : xs75 = [u81, u85, u89] := tup3 (by rw [hr77.length, List.length_map]; exact gd) huu81 huu85 huu89
        refine h_gcons ?_
        refine h_gname ?_
        refine h_gcons ?_
        refine h_gname ?_
        refine h_gcons ?_
        refine h_gname ?_
        refine h_gnil ?_
        refine h_seq ?_
        refine h_drop ?_
        refine h_bm ?_
        refine h_var rfl ?_
        refine h_bmL m43 ?_
        refine h_cons ?_
        refine h_lst ?_
        refine h_cons ?_
        refine h_var rfl ?_
        refine h_cons ?_
        refine h_var rfl ?_
        refine h_cons ?_
        refine h_cb ?_
        refine h_cons ?_
        refine h_var rfl ?_
        refine h_nil ?_
        obtain ⟨l91, hl92, P⟩ := P.asL
        have rc93 := r90
        rw [hl92] at rc93
        obtain ⟨p94, xs95, rfl, hs96, hr97⟩ := Rep.sq w rc93
        refine h_len hs96 hr97 ?_
        refine h_nil ?_
        obtain ⟨i98, hi99, P⟩ := P.asI
        have rc100 := r82
        rw [hi99] at rc100
        cases rc100
        obtain ⟨i101, hi102, P⟩ := P.asI
        have rc103 := r86
        rw [hi102] at rc103
        cases rc103
        refine h_newM w (ds := (([i98, i101, (l91.length : Int)] : List Int)).map enc) (K := K) (.cons (Rep.int _) (.cons (Rep.int _) (.cons (Rep.int _) .nil))) (fun p104 H105 hn108 s106 m107 => ?_) (by show 3 ≤ sizeLine; decide)
        have n109 := st.nn hn108
        have n110 := sj53.nn hn108
        have ne111 := Mu.ne m43 hn108
        replace r18 := r18.mono s106.ex
        replace r22 := r22.mono s106.ex
        replace r26 := r26.mono s106.ex
        replace m43 := m43.step s106 nm0
        replace r82 := r82.mono s106.ex
        replace r86 := r86.mono s106.ex
        replace r90 := r90.mono s106.ex
        replace st := st.go s106 go0
        replace sj53 := sj53.go s106 go0
        replace w := s106.ok
        refine h_nil ?_
        obtain ⟨gd, P⟩ := P.guard
        refine h_extend w m43 m107 gd (fun H112 s113 m43 => ?_)
        replace r18 := r18.mono s113.ex
        replace r22 := r22.mono s113.ex
        replace r26 := r26.mono s113.ex
        replace r82 := r82.mono s113.ex
        replace r86 := r86.mono s113.ex
        replace r90 := r90.mono s113.ex
        replace st := st.go s113 (go1 (.inr n45))
        replace sj53 := sj53.go s113 (go1 (.inl (by simp)))
        replace w := s113.ok
        refine h_nx ?_
        refine h_forE ?_
        refine h_var rfl ?_
        obtain ⟨l114, hl115, P⟩ := P.asL
        have rc116 := r90
        rw [hl115] at rc116
        obtain ⟨p117, xs118, hv, hb119, hr120⟩ := Rep.sqB rc116
        cases hv
        have wj122 := w
        have sj121 := Stp.refl (W := [p40]) w
        refine h_forL P (w.l hb119) hr120 (fun (a : (List Int)) σ' H' => ∃ (B' : Hp) (o_edit : Option V), Stp [p40] B64 H112 B' H' ∧ σ' = [some ((.ref p10)), some (.int i34), some (.int i37), some ((.ref p30)), some ((.ref p40)), some (.int i98), some (.int i101), some ((.ref p94)), o_edit] ∧ Mu K B' H' p40 (a.map enc)) ⟨_, _, sj121, rfl, m43⟩ (fun _ _ _ j => ?_) ?_ ?_
        · obtain ⟨B132, o135, s134, rfl, m43⟩ := j
          exact s134.ok.l (s134.ex.l hb119)
        · rintro N123 T124 x129 v130 a128 _ H133 ⟨B132, o135, s134, rfl, m43⟩ r131 kk125 kr126 kb127 P
          replace r18 := r18.mono s134.ex
          replace r22 := r22.mono s134.ex
          replace r26 := r26.mono s134.ex
          replace r82 := r82.mono s134.ex
          replace r86 := r86.mono s134.ex
          replace r90 := r90.mono s134.ex
          replace st := st.go s134 (go1 (.inr n45))
          replace sj53 := sj53.go s134 (go1 (.inl (by simp)))
          replace w := s134.ok
          have sj121 := s134
          replace r131 := r131.mono sj121.ex
          refine h_gname ?_
          refine h_drop ?_
          refine h_bm ?_
          refine h_var rfl ?_
          refine h_bmL m43 ?_
          refine h_cons ?_
          refine h_call ?_
          refine h_cons ?_
          refine h_var rfl ?_
          refine h_nil ?_
          refine ⟨B132, v130, x129, w, rfl, r131, (P.bind.noErr).mono (fun x136 P => ?_) (fun _ z => z.elim)⟩
          refine fun p142 B137 H138 s139 hn143 m144 => ?_
          have n146 := st.nn hn143
          have n147 := sj53.nn hn143
          have n148 := sj121.nn hn143
          have ne149 := Mu.ne m43 hn143
          replace r18 := r18.mono s139.ex
          replace r22 := r22.mono s139.ex
          replace r26 := r26.mono s139.ex
          replace m43 := m43.step s139 nm0
          replace r82 := r82.mono s139.ex
          replace r86 := r86.mono s139.ex
          replace r90 := r90.mono s139.ex
          replace r131 := r131.mono s139.ex
          replace st := st.go s139 go0
          replace sj53 := sj53.go s139 go0
          replace sj121 := sj121.go s139 go0
          replace w := s139.ok
          refine h_nil ?_
          obtain ⟨gd, P⟩ := P.guard
          refine h_extend w m43 m144 gd (fun H150 s151 m43 => ?_)
          replace r18 := r18.mono s151.ex
          replace r22 := r22.mono s151.ex
          replace r26 := r26.mono s151.ex
          replace r82 := r82.mono s151.ex
          replace r86 := r86.mono s151.ex
          replace r90 := r90.mono s151.ex
          replace r131 := r131.mono s151.ex
          replace st := st.go s151 (go1 (.inr n45))
          replace sj53 := sj53.go s151 (go1 (.inl (by simp)))
          replace sj121 := sj121.go s151 (go1 (.inl (by simp)))
          replace w := s151.ok
          refine h_nx ?_
          exact kk125 (a128 ++ x136) _ _ ⟨_, _, sj121, rfl, m43⟩ P.ok
        · rintro a152 _ H154 ⟨B153, o156, s155, rfl, m43⟩ P
          replace r18 := r18.mono s155.ex
          replace r22 := r22.mono s155.ex
          replace r26 := r26.mono s155.ex
          replace r82 := r82.mono s155.ex
          replace r86 := r86.mono s155.ex
          replace r90 := r90.mono s155.ex
          replace st := st.go s155 (go1 (.inr n45))
          replace sj53 := sj53.go s155 (go1 (.inl (by simp)))
          replace w := s155.ok
          refine h_nx ?_
          exact kk57 a152 _ _ ⟨_, _, _, _, _, sj53, rfl, m43⟩ P.ok
      · rintro a157 _ H159 ⟨B158, o161, o162, o163, o164, s160, rfl, m43⟩ P
        replace r18 := r18.mono s160.ex
        replace r22 := r22.mono s160.ex
        replace r26 := r26.mono s160.ex
        replace st := st.go s160 (go1 (.inr n45))
        replace w := s160.ok
        refine h_nx ?_
        refine h_ret ?_
        refine h_call ?_
        refine h_cons ?_
        refine h_var rfl ?_
        refine h_nil ?_
        refine ⟨B158, (.ref p40), a157, w, rfl, (m43.bor nm0), (P.bind.noErr).mono (fun x165 P => ?_) (fun _ z => z.elim)⟩
        refine fun p171 B166 H167 s168 hn172 m173 => ?_
        have n175 := st.nn hn172
        have ne176 := Mu.ne m43 hn172
        replace r18 := r18.mono s168.ex
        replace r22 := r22.mono s168.ex
        replace r26 := r26.mono s168.ex
        replace m43 := m43.step s168 nm0
        replace st := st.go s168 go0
        replace w := s168.ok
        exact P.ok _ _ _ st n175 m173
theorem ok_Numbers__number {f : Addr} {fd : FuncData}  (F : Fun K "number" "Numbers.number" s_Numbers__number f fd) {C_NoBody : Addr} (T_NoBody : ExcR K mg "NoBody" C_NoBody) {C_Numbers : Addr} (T_Numbers : KI K mg "Numbers" C_Numbers) (n_Numbers_row : NoAttr K C_Numbers "row") (n_Numbers_at : NoAttr K C_Numbers "at") {f_number_at : Addr} {d_number_at : FuncData} (g_number_at : mg "number_at" = some (.ref f_number_at)) (k_number_at : PySem.W.keepIn K (.ref f_number_at) = true) (b_number_at : L2.Binds K d_number_at ["row", "at"] []) (G_number_at : FnOk Pr wo K mg base CX0 1 f_number_at d_number_at ["row", "at"] (sp_number_at K)) : FnOk Pr wo K mg base (L2.CX Pr wo) 2 f fd ["self", "low", "high"] (sp_Numbers__number K mg C_Numbers) := by
  refine F.okX sc_Numbers__number (fun vs H Q E h => ?_) (fun cdv A outer s H0 vs Q E hr h => ?_)
  · obtain ⟨_, _, _, _, _, _, rfl, _⟩ := h; rfl
  · obtain ⟨B0, p_self, a_self, a_low, a_high, w, rfl, m_self, P⟩ := h
    have w0 := w
    have hu := hu_of hr
    have hu64 := hu64_of hr
    have hu65 := hu65_of hr
    have hr1 : Room 1 _ := hr.mono (by decide)
    refine ⟨_, (pss_cons (ps_set (i := 3) sc_Numbers__number.nd rfl (by first | exact Or.inl rfl | exact Or.inr rfl) (pe_call G_number_at hr1 rfl g_number_at k_number_at b_number_at .nil pass0 (pa_cons (pe_fld (pv 0) rfl) (pa_cons (pe_fld (pv 0) rfl) pa_nil))))
      (pss_cons (ps_if (PW.pt (pw_or (pt_cmpR op_isNn (pv 3) pe_non (nomark _)) (pw_or1 (pt_not (pt_chain op_le op_le (pv 1) (pe_ix (r := rIxT K) ix_tup (pv 3) pe_int (fun _ _ => rfl)) (pv 2)))))) (pss_one (ps_raise rfl (takes_of rfl rfl rfl rfl) (pmk_own PySem.F.excBase_ValueError T_NoBody.ex T_NoBody.g T_NoBody.kp (raises_own T_NoBody.ec.hs T_NoBody.ty) rfl))) pss_nil)
      (pss_cons (ps_fld (pv 0) (pe_ix (r := rIxT K) ix_tup (pv 3) pe_int (fun _ _ => rfl)) rfl)
      (pss_one (ps_ret (pe_ix (r := rIxT K) ix_tup (pv 3) pe_int (fun _ _ => rfl))))))), ?_⟩
    unfold m_Numbers__number at P
    have st := Stp.refl (W := [p_self]) w
    refine h_set ?_
    refine h_call ?_
    refine h_cons ?_
    refine h_fldE ?_
    refine h_var rfl ?_
    obtain ⟨x1, hx2, P⟩ := P.nth
    refine h_fldN (k := 0) m_self T_Numbers n_Numbers_row hx2 (fun u3 r4 => ?_)
    obtain ⟨x5, hx6, P⟩ := P.asD
    have rc7 := r4
    rw [hx6] at rc7
    refine h_cons ?_
    refine h_fldE ?_
    refine h_var rfl ?_
    obtain ⟨x8, hx9, P⟩ := P.nth
    refine h_fldN (k := 1) m_self T_Numbers n_Numbers_at hx9 (fun u10 r11 => ?_)
    obtain ⟨i12, hi13, P⟩ := P.asI
    have rc14 := r11
    rw [hi13] at rc14
    cases rc14
    refine h_nil ?_
    refine ⟨B0, u3, x5, i12, w, rfl, rc7, (P.bind.noErr).mono (fun x15 P => ?_) (fun _ z => z.elim)⟩
    refine fun v19 B16 H17 s18 r20 => ?_
    replace m_self := m_self.step s18 nm0
    replace rc7 := rc7.mono s18.ex
    replace st := st.go s18 go0
    replace w := s18.ok
    refine h_seq <| h_if ?_
    refine h_tor ?_
    refine h_test ?_
    refine h_op ?_
    refine h_var rfl ?_
    refine h_c ?_
    refine h_isN r20 ?_
    refine h_bl ?_
    refine h_ite (fun c1 => ?_) (fun c1 => ?_)
    · replace P := P.iteT c1
      refine h_iteT ?_
      exact P.err _ _ _ T_NoBody.g st
    · replace P := P.iteF c1
      refine h_tnot ?_
      refine h_test ?_
      refine h_chain ?_
      refine h_var rfl ?_
      refine h_op ?_
      refine h_var rfl ?_
      refine h_c ?_
      obtain ⟨x21, hx22, P⟩ := P.some
      have rc23 := r20
      rw [hx22] at rc23
      replace rc23 : Rep K B16 v19 (enc x21) := rc23
      obtain ⟨p24, xs25, rfl, hs26, hr27⟩ := Rep.st w rc23
      obtain ⟨u28, hu, r29⟩ := RepL.at hr27 (i := 0) rfl
      refine h_ixT hs26 hu ?_
      cases r29
      refine h_I0 ?_
      refine h_bl ?_
      refine h_ite (fun c1 => ?_) (fun c1 => ?_)
      · replace P := P.iteT c1
        refine h_var rfl ?_
        refine h_I0 ?_
        refine h_bl ?_
        refine h_iteN (fun c1 => ?_) (fun c1 => ?_)
        · replace P := P.iteF c1
          exact P.err _ _ _ T_NoBody.g st
        · replace P := P.iteT c1
          refine h_next ?_
          refine h_nx ?_
          refine h_seq ?_
          refine h_sfldE ?_
          refine h_op ?_
          refine h_var rfl ?_
          refine h_c ?_
          obtain ⟨x30, hx31, P⟩ := P.some
          have rc32 := r20
          rw [hx31] at rc32
          replace rc32 : Rep K B16 (.ref p24) (enc x30) := rc32
          obtain ⟨p33, xs34, hv, hs35, hr36⟩ := Rep.st w rc32
          cases hv
          obtain ⟨u37, hu, r38⟩ := RepL.at hr36 (i := 1) rfl
          refine h_ixT hs35 hu ?_
          cases r38
          refine h_var rfl ?_
          refine h_sfldN (k := 1) (b := (enc (x30.b : Int))) w m_self T_Numbers n_Numbers_at (Rep.int _) (fun H39 s40 m_self => ?_)
          replace r20 := r20.mono s40.ex
          replace st := st.go s40 (go1 (.inl (by simp)))
          replace w := s40.ok
          refine h_nx ?_
          refine h_ret ?_
          refine h_op ?_
          refine h_var rfl ?_
          refine h_c ?_
          obtain ⟨x41, hx42, P⟩ := P.some
          have rc43 := r20
          rw [hx42] at rc43
          replace rc43 : Rep K B16 (.ref p24) (enc x41) := rc43
          obtain ⟨p44, xs45, hv, hs46, hr47⟩ := Rep.st w rc43
          cases hv
          obtain ⟨u48, hu, r49⟩ := RepL.at hr47 (i := 0) rfl
          refine h_ixT hs46 hu ?_
          cases r49
          exact P.ok _ _ _ st m_self (Rep.int _)
      · replace P := P.iteF c1
        refine h_bl ?_
        refine h_iteNF ?_
        exact P.err _ _ _ T_NoBody.g st
theorem ok_Numbers__pair {f : Addr} {fd : FuncData}  (F : Fun K "pair" "Numbers.pair" s_Numbers__pair f fd) (c_GREATEST : CI mg "GREATEST" 1000000000000000000000000000000000000000000000000000000000000) {C_Numbers : Addr} (T_Numbers : KI K mg "Numbers" C_Numbers) (L_Numbers__number : MAlt Pr wo K mg base (L2.CX Pr wo) 2 "number" C_Numbers (sp_Numbers__number K mg C_Numbers)) : FnOk Pr wo K mg base (L2.CX Pr wo) 3 f fd ["self"] (sp_Numbers__pair K mg C_Numbers) := by
  refine F.okX sc_Numbers__pair (fun vs H Q E h => ?_) (fun cdv A outer s H0 vs Q E hr h => ?_)
  · obtain ⟨_, _, _, _, rfl, _⟩ := h; rfl
  · obtain ⟨B0, p_self, a_self, w, rfl, m_self, P⟩ := h
    have w0 := w
    have hu := hu_of hr
    have hu64 := hu64_of hr
    have hu65 := hu65_of hr
    have hr2 : Room 2 _ := hr.mono (by decide)
    refine ⟨_, (pss_cons (ps_set (i := 1) sc_Numbers__pair.nd rfl (by first | exact Or.inl rfl | exact Or.inr rfl) (pe_methP (pv 0) (AOne.alt L_Numbers__number) hr2 (fun σ => passAt (takes_of rfl rfl rfl rfl) σ) (pa_cons pe_int (pa_cons (pe_globI (i := 1000000000000000000000000000000000000000000000000000000000000) (by rfl) c_GREATEST) pa_nil))))
      (pss_one (ps_ret (pe_tup (pa_cons (pv 1) (pa_cons (pe_methP (pv 0) (AOne.alt L_Numbers__number) hr2 (fun σ => passAt (takes_of rfl rfl rfl rfl) σ) (pa_cons pe_int (pa_cons (pe_globI (i := 1000000000000000000000000000000000000000000000000000000000000) (by rfl) c_GREATEST) pa_nil))) pa_nil)))))), ?_⟩
    unfold m_Numbers__pair at P
    have st := Stp.refl (W := [p_self]) w
    refine h_set ?_
    refine h_methE ?_
    refine h_var rfl ?_
    refine MuN.meth (m := "number") m_self ?_
    refine h_cons ?_
    refine h_c ?_
    refine h_cons ?_
    refine h_c ?_
    refine h_nil ?_
    refine ⟨B0, p_self, a_self, 0, 1000000000000000000000000000000000000000000000000000000000000, w, rfl, m_self, Post.mono2 P.bind (fun e7 P => ?_) (fun x1 P => ?_)⟩
    · skip
      exact fun C B' H' g s => P C B' H' g (st.go s (go1 (.inl (by simp))))
    refine fun v5 B2 H3 s4 m_self r6 => ?_
    replace st := st.go s4 (go1 (.inl (by simp)))
    replace w := s4.ok
    cases r6
    refine h_ret ?_
    refine h_tup ?_
    refine h_cons ?_
    refine h_var rfl ?_
    refine h_cons ?_
    refine h_methE ?_
    refine h_var rfl ?_
    refine MuN.meth (m := "number") m_self ?_
    refine h_cons ?_
    refine h_c ?_
    refine h_cons ?_
    refine h_c ?_
    refine h_nil ?_
    refine ⟨B2, p_self, x1.2, 0, 1000000000000000000000000000000000000000000000000000000000000, w, rfl, m_self, Post.mono2 P.bind (fun e14 P => ?_) (fun x8 P => ?_)⟩
    · skip
      exact fun C B' H' g s => P C B' H' g (st.go s (go1 (.inl (by simp))))
    refine fun v12 B9 H10 s11 m_self r13 => ?_
    replace st := st.go s11 (go1 (.inl (by simp)))
    replace w := s11.ok
    cases r13
    refine h_nil ?_
    refine h_newT w (K := K) (.cons (Rep.int _) (.cons (Rep.int _) .nil)) (fun p15 B16 H17 s18 r19 => ?_) (by show 2 ≤ sizeLine; decide)
    replace m_self := m_self.step s18 nm0
    replace st := st.go s18 go0
    replace w := s18.ok
    replace r19 : Rep K B16 (.ref p15) (enc (⟨x1.1, x8.1⟩ : (Tp2 Int Int))) := r19
    exact P.ok _ _ _ st m_self r19
theorem ok_edit_in {f : Addr} {fd : FuncData}  (F : Fun K "edit_in" "edit_in" s_edit_in f fd) {C_NOUGHT : Addr} (c_NOUGHT : CT K mg "NOUGHT" C_NOUGHT (⟨0, 1⟩ : (Tp2 Int Int))) {C_Numbers : Addr} (T_Numbers : KI K mg "Numbers" C_Numbers) (L_Numbers__pair : MAlt Pr wo K mg base (L2.CX Pr wo) 3 "pair" C_Numbers (sp_Numbers__pair K mg C_Numbers)) (L_Numbers__number : MAlt Pr wo K mg base (L2.CX Pr wo) 2 "number" C_Numbers (sp_Numbers__number K mg C_Numbers)) : FnOk Pr wo K mg base (L2.CX Pr wo) 4 f fd ["numbers"] (sp_edit_in K mg C_Numbers) := by
  refine F.okX sc_edit_in (fun vs H Q E h => ?_) (fun cdv A outer s H0 vs Q E hr h => ?_)
  · obtain ⟨_, _, _, _, rfl, _⟩ := h; rfl
  · obtain ⟨B0, p_numbers, a_numbers, w, rfl, m_numbers, P⟩ := h
    have w0 := w
    have hu := hu_of hr
    have hu64 := hu64_of hr
    have hu65 := hu65_of hr
    have hr2 : Room 2 _ := hr.mono (by decide)
    have hr3 : Room 3 _ := hr.mono (by decide)
    refine ⟨_, (pss_cons (ps_set (i := 1) sc_edit_in.nd rfl (by first | exact Or.inl rfl | exact Or.inr rfl) (pe_methP0 (pv 0) (AOne.alt L_Numbers__pair) hr3 (fun σ => passAt (takes_of rfl rfl rfl rfl) σ)))
      (pss_cons (ps_if (pt_cmpR op_eq (pe_methP (pv 0) (AOne.alt L_Numbers__number) hr2 (fun σ => passAt (takes_of rfl rfl rfl rfl) σ) (pa_cons pe_int (pa_cons pe_int pa_nil))) pe_int (nomark _)) (pss_one (ps_ret (pe_tup (pa_cons (pv 1) (pa_cons pe_non (pa_cons (pe_glob (v := .ref C_NOUGHT) (by rfl) c_NOUGHT.g rfl) pa_nil)))))) pss_nil)
      (pss_cons (ps_set (i := 2) sc_edit_in.nd rfl (by first | exact Or.inl rfl | exact Or.inr rfl) (pe_methP0 (pv 0) (AOne.alt L_Numbers__pair) hr3 (fun σ => passAt (takes_of rfl rfl rfl rfl) σ)))
      (pss_one (ps_ret (pe_tup (pa_cons (pv 1) (pa_cons (pv 2) (pa_cons (pe_methP0 (pv 0) (AOne.alt L_Numbers__pair) hr3 (fun σ => passAt (takes_of rfl rfl rfl rfl) σ)) pa_nil))))))))), ?_⟩
    unfold m_edit_in at P
    have st := Stp.refl (W := [p_numbers]) w
    refine h_set ?_
    refine h_methE ?_
    refine h_var rfl ?_
    refine MuN.meth (m := "pair") m_numbers ?_
    refine h_nil ?_
    refine ⟨B0, p_numbers, a_numbers, w, rfl, m_numbers, Post.mono2 P.bind (fun e7 P => ?_) (fun x1 P => ?_)⟩
    · skip
      exact fun C B' H' g s => P C B' H' g (st.go s (go1 (.inl (by simp))))
    refine fun v5 B2 H3 s4 m_numbers r6 => ?_
    replace st := st.go s4 (go1 (.inl (by simp)))
    replace w := s4.ok
    refine h_seq <| h_if ?_
    refine h_test ?_
    refine h_op ?_
    refine h_methE ?_
    refine h_var rfl ?_
    refine MuN.meth (m := "number") m_numbers ?_
    refine h_cons ?_
    refine h_c ?_
    refine h_cons ?_
    refine h_c ?_
    refine h_nil ?_
    refine ⟨B2, p_numbers, x1.2, 0, 1, w, rfl, m_numbers, Post.mono2 P.bind (fun e14 P => ?_) (fun x8 P => ?_)⟩
    · skip
      exact fun C B' H' g s => P C B' H' g (st.go s (go1 (.inl (by simp))))
    refine fun v12 B9 H10 s11 m_numbers r13 => ?_
    replace r6 := r6.mono s11.ex
    replace st := st.go s11 (go1 (.inl (by simp)))
    replace w := s11.ok
    cases r13
    refine h_c ?_
    refine h_eqI ?_
    refine h_bl ?_
    refine h_ite (fun c1 => ?_) (fun c1 => ?_)
    · replace P := P.iteT c1
      refine h_ret ?_
      refine h_tup ?_
      refine h_cons ?_
      refine h_var rfl ?_
      refine h_cons ?_
      refine h_c ?_
      refine h_cons ?_
      refine h_c ?_
      have r15 := c_NOUGHT.rep B9
      refine h_nil ?_
      refine h_newT w (K := K) (.cons r6 (.cons Rep.non (.cons r15 .nil))) (fun p16 B17 H18 s19 r20 => ?_) (by show 3 ≤ sizeLine; decide)
      replace m_numbers := m_numbers.step s19 nm0
      replace r6 := r6.mono s19.ex
      replace st := st.go s19 go0
      replace w := s19.ok
      replace r20 : Rep K B17 (.ref p16) (enc (⟨x1.1, (), (⟨0, 1⟩ : (Tp2 Int Int))⟩ : (Tp3 (Tp2 Int Int) Unit (Tp2 Int Int)))) := r20
      exact P.ok _ _ _ st m_numbers r20
    · replace P := P.iteF c1
      refine h_next ?_
      refine h_nx ?_
      refine h_set ?_
      refine h_methE ?_
      refine h_var rfl ?_
      refine MuN.meth (m := "pair") m_numbers ?_
      refine h_nil ?_
      refine ⟨B9, p_numbers, x8.2, w, rfl, m_numbers, Post.mono2 P.bind (fun e27 P => ?_) (fun x21 P => ?_)⟩
      · skip
        exact fun C B' H' g s => P C B' H' g (st.go s (go1 (.inl (by simp))))
      refine fun v25 B22 H23 s24 m_numbers r26 => ?_
      replace r6 := r6.mono s24.ex
      replace st := st.go s24 (go1 (.inl (by simp)))
      replace w := s24.ok
      refine h_ret ?_
      refine h_tup ?_
      refine h_cons ?_
      refine h_var rfl ?_
      refine h_cons ?_
      refine h_var rfl ?_
      refine h_cons ?_
      refine h_methE ?_
      refine h_var rfl ?_
      refine MuN.meth (m := "pair") m_numbers ?_
      refine h_nil ?_
      refine ⟨B22, p_numbers, x21.2, w, rfl, m_numbers, Post.mono2 P.bind (fun e34 P => ?_) (fun x28 P => ?_)⟩
      · skip
        exact fun C B' H' g s => P C B' H' g (st.go s (go1 (.inl (by simp))))
      refine fun v32 B29 H30 s31 m_numbers r33 => ?_
      replace r6 := r6.mono s31.ex
      replace r26 := r26.mono s31.ex
      replace st := st.go s31 (go1 (.inl (by simp)))
      replace w := s31.ok
      refine h_nil ?_
      refine h_newT w (K := K) (.cons r6 (.cons r26 (.cons r33 .nil))) (fun p35 B36 H37 s38 r39 => ?_) (by show 3 ≤ sizeLine; decide)
      replace m_numbers := m_numbers.step s38 nm0
      replace r6 := r6.mono s38.ex
      replace r26 := r26.mono s38.ex
      replace st := st.go s38 go0
      replace w := s38.ok
      replace r39 : Rep K B36 (.ref p35) (enc (⟨x1.1, x21.1, x28.1⟩ : (Tp3 (Tp2 Int Int) (Tp2 Int Int) (Tp2 Int Int)))) := r39
      exact P.ok _ _ _ st m_numbers r39
theorem ok_lane_in {f : Addr} {fd : FuncData}  (F : Fun K "lane_in" "lane_in" s_lane_in f fd) {C_Numbers : Addr} (T_Numbers : KI K mg "Numbers" C_Numbers) (L_Numbers__number : MAlt Pr wo K mg base (L2.CX Pr wo) 2 "number" C_Numbers (sp_Numbers__number K mg C_Numbers)) {f_edit_in : Addr} {d_edit_in : FuncData} (g_edit_in : mg "edit_in" = some (.ref f_edit_in)) (k_edit_in : PySem.W.keepIn K (.ref f_edit_in) = true) (b_edit_in : L2.Binds K d_edit_in ["numbers"] []) (G_edit_in : FnOk Pr wo K mg base (L2.CX Pr wo) 4 f_edit_in d_edit_in ["numbers"] (sp_edit_in K mg C_Numbers)) (bI_range : mg "range" = none) : FnOk Pr wo K mg base (L2.CX Pr wo) 5 f fd ["numbers"] (sp_lane_in K mg C_Numbers) := by
  refine F.okX sc_lane_in (fun vs H Q E h => ?_) (fun cdv A outer s H0 vs Q E hr h => ?_)
  · obtain ⟨_, _, _, _, rfl, _⟩ := h; rfl
  · obtain ⟨B0, p_numbers, a_numbers, w, rfl, m_numbers, P⟩ := h
    have w0 := w
    have hu := hu_of hr
    have hu64 := hu64_of hr
    have hu65 := hu65_of hr
    have hr2 : Room 2 _ := hr.mono (by decide)
    have hr4 : Room 4 _ := hr.mono (by decide)
    refine ⟨_, (pss_cons (ps_set (i := 1) sc_lane_in.nd rfl (by first | exact Or.inl rfl | exact Or.inr rfl) (pe_methP (pv 0) (AOne.alt L_Numbers__number) hr2 (fun σ => passAt (takes_of rfl rfl rfl rfl) σ) (pa_cons pe_int (pa_cons (pe_op op_pow pe_int pe_int) pa_nil))))
      (pss_cons (ps_set (i := 2) sc_lane_in.nd rfl (by first | exact Or.inl rfl | exact Or.inr rfl) (pe_methP (pv 0) (AOne.alt L_Numbers__number) hr2 (fun σ => passAt (takes_of rfl rfl rfl rfl) σ) (pa_cons pe_int (pa_cons pe_int pa_nil))))
      (pss_one (ps_ret (pe_tup (pa_cons (pv 1) (pa_cons (pv 2) (pa_cons (pe_lcX (takes_of rfl rfl rfl rfl) rfl rfl (own := [("k", 3)]) rfl sc_lane_in.nd (pi_range1 (by rfl) bI_range (pa_cons (pe_methP (pv 0) (AOne.alt L_Numbers__number) hr2 (fun σ => passAt (takes_of rfl rfl rfl rfl) σ) (pa_cons pe_int (pa_cons pe_int pa_nil))) pa_nil)) (blkOk_by (N := ["numbers", "units", "count", "k"]) (sc := defScope s_lane_in) (by decide +kernel)) (fun _ _ _ _ _ => (pg_name (i := 3) sc_lane_in.nd rfl (by first | exact Or.inl rfl | exact Or.inr rfl))) (fun _ _ _ _ _ => pts_nil) (fun _ _ _ _ _ _ _ hpx => (pe_callS G_edit_in hr4 rfl g_edit_in k_edit_in b_edit_in (fun σ => hpx σ) (pa_cons (pv 0) pa_nil)))) pa_nil)))))))), ?_⟩
    unfold m_lane_in at P
    have st := Stp.refl (W := [p_numbers]) w
    refine h_set ?_
    refine h_methE ?_
    refine h_var rfl ?_
    refine MuN.meth (m := "number") m_numbers ?_
    refine h_cons ?_
    refine h_c ?_
    refine h_cons ?_
    refine h_op (h_c (h_c (h_pow (k := 1000000) (by decide +kernel) (by decide +kernel) ?_)))
    refine h_nil ?_
    refine ⟨B0, p_numbers, a_numbers, 1, 1000000, w, rfl, m_numbers, Post.mono2 P.bind (fun e7 P => ?_) (fun x1 P => ?_)⟩
    · skip
      exact fun C B' H' g s => P C B' H' g (st.go s (go1 (.inl (by simp))))
    refine fun v5 B2 H3 s4 m_numbers r6 => ?_
    replace st := st.go s4 (go1 (.inl (by simp)))
    replace w := s4.ok
    cases r6
    refine h_set ?_
    refine h_methE ?_
    refine h_var rfl ?_
    refine MuN.meth (m := "number") m_numbers ?_
    refine h_cons ?_
    refine h_c ?_
    refine h_cons ?_
    refine h_c ?_
    refine h_nil ?_
    refine ⟨B2, p_numbers, x1.2, 0, 200, w, rfl, m_numbers, Post.mono2 P.bind (fun e14 P => ?_) (fun x8 P => ?_)⟩
    · skip
      exact fun C B' H' g s => P C B' H' g (st.go s (go1 (.inl (by simp))))
    refine fun v12 B9 H10 s11 m_numbers r13 => ?_
    replace st := st.go s11 (go1 (.inl (by simp)))
    replace w := s11.ok
    cases r13
    refine h_ret ?_
    refine h_tup ?_
    refine h_cons ?_
    refine h_var rfl ?_
    refine h_cons ?_
    refine h_var rfl ?_
    refine h_cons ?_
    refine h_lcR1E ?_
    refine h_cons ?_
    refine h_methE ?_
    refine h_var rfl ?_
    refine MuN.meth (m := "number") m_numbers ?_
    refine h_cons ?_
    refine h_c ?_
    refine h_cons ?_
    refine h_c ?_
    refine h_nil ?_
    refine ⟨B9, p_numbers, x8.2, 0, 60, w, rfl, m_numbers, Post.mono2 P.bind (fun e21 P => ?_) (fun x15 P => ?_)⟩
    · skip
      exact fun C B' H' g s => P C B' H' g (st.go s (go1 (.inl (by simp))))
    refine fun v19 B16 H17 s18 m_numbers r20 => ?_
    replace st := st.go s18 (go1 (.inl (by simp)))
    replace w := s18.ok
    cases r20
    refine h_nil ?_
    obtain ⟨gz22, P⟩ := P.guard
    refine h_lcR1 P (fun Dl (acc : List (Tp3 (Tp2 Int Int) (Option (Tp2 Int Int)) (Tp2 Int Int))) (a : (List D)) H' => ∃ B', Stp [p_numbers] B16 H17 B' H' ∧ H17 Dl = none ∧ Mu K B' H' Dl (acc.map enc) ∧ p_numbers ≠ Dl ∧ MuN K C_Numbers ["row", "at"] B' H' p_numbers a) (fun Dl hD => ⟨_, Stp.newM w hD, hD, Mu.new w hD .nil, MuN.ne m_numbers hD, m_numbers.step (Stp.newM (W := []) w hD) nm0⟩) ?_ ?_ gz22
    · rintro Dl23 N24 T25 x26 acc29 a30 H31 ⟨B32, s33, hD34, m35, ne39, m_numbers⟩ hlox26 hhix26 hz36 kk37 kn38 P
      have wj41 := w
      have sj40 := s33
      have n42 := st.nn hD34
      replace st := st.go s33 (go1 (.inl (by simp)))
      replace w := s33.ok
      refine h_gname ?_
      refine h_lcT rfl ?_
      refine h_callS ?_
      refine h_cons ?_
      refine h_var rfl ?_
      refine h_nil ?_
      refine ⟨B32, p_numbers, a30, w, rfl, m_numbers, Post.mono2 P.bind (fun e49 P => ?_) (fun x43 P => ?_)⟩
      · skip
        exact fun C B' H' g s => P C B' H' g (st.go s (go1 (.inl (by simp))))
      refine fun v47 B44 H45 s46 m_numbers r48 => ?_
      replace m35 := m35.step s46 (nm1 ne39.symm)
      replace st := st.go s46 (go1 (.inl (by simp)))
      replace sj40 := sj40.go s46 (go1 (.inl (by simp)))
      replace w := s46.ok
      refine h_app (b := x43.1) w m35 r48 hz36 (fun H50 s51 m35 => ?_)
      replace m_numbers := m_numbers.step s51 (nm1 ne39)
      replace st := st.go s51 (go1 (.inr n42))
      replace sj40 := sj40.go s51 (go1 (.inr hD34))
      replace w := s51.ok
      exact kk37 x43.1 x43.2 _ ⟨_, sj40, hD34, m35, ne39, m_numbers⟩ P.ok
    · rintro Dl23 acc29 a30 H31 ⟨B32, s33, hD34, m35, ne39, m_numbers⟩ P
      have n52 := st.nn hD34
      replace st := st.go s33 (go1 (.inl (by simp)))
      replace w := s33.ok
      replace P := P.un2
      refine h_nil ?_
      obtain ⟨gd, P⟩ := P.guard
      obtain ⟨B57, e53, k54, g55, r56, rn58⟩ := Mu.keepN m35 gd n52
      replace st := g55 _ _ _ st w0 n52
      replace m_numbers := m_numbers.kp e53 k54 ne39
      replace w := st.ok
      replace r56 : Rep K B57 (.ref Dl23) (enc acc29) := r56
      refine h_newTN w (K := K) (.cons (Rep.int _) (.cons (Rep.int _) (.cons r56 .nil))) (.cons (.sc (Rep.int _) rfl) (.cons (.sc (Rep.int _) rfl) (.cons rn58 .nil))) (fun p59 B60 H61 s62 r63 rn64 => ?_) (by show 3 ≤ sizeLine; decide)
      replace m_numbers := m_numbers.step s62 nm0
      replace st := st.go s62 go0
      replace w := s62.ok
      replace r63 : Rep K B60 (.ref p59) (enc (⟨x1.1, x8.1, acc29⟩ : (Tp3 Int Int (List (Tp3 (Tp2 Int Int) (Option (Tp2 Int Int)) (Tp2 Int Int)))))) := r63
      exact P.ok _ _ _ st m_numbers rn64
theorem ok_head_in {f : Addr} {fd : FuncData}  (F : Fun K "head_in" "head_in" s_head_in f fd) {C_Numbers : Addr} (T_Numbers : KI K mg "Numbers" C_Numbers) (L_Numbers__number : MAlt Pr wo K mg base (L2.CX Pr wo) 2 "number" C_Numbers (sp_Numbers__number K mg C_Numbers)) {f_lane_in : Addr} {d_lane_in : FuncData} (g_lane_in : mg "lane_in" = some (.ref f_lane_in)) (k_lane_in : PySem.W.keepIn K (.ref f_lane_in) = true) (b_lane_in : L2.Binds K d_lane_in ["numbers"] []) (G_lane_in : FnOk Pr wo K mg base (L2.CX Pr wo) 5 f_lane_in d_lane_in ["numbers"] (sp_lane_in K mg C_Numbers)) (bI_range : mg "range" = none) : FnOk Pr wo K mg base (L2.CX Pr wo) 6 f fd ["numbers"] (sp_head_in K mg C_Numbers) := by
  refine F.okX sc_head_in (fun vs H Q E h => ?_) (fun cdv A outer s H0 vs Q E hr h => ?_)
  · obtain ⟨_, _, _, _, rfl, _⟩ := h; rfl
  · obtain ⟨B0, p_numbers, a_numbers, w, rfl, m_numbers, P⟩ := h
    have w0 := w
    have hu := hu_of hr
    have hu64 := hu64_of hr
    have hu65 := hu65_of hr
    have hr2 : Room 2 _ := hr.mono (by decide)
    have hr5 : Room 5 _ := hr.mono (by decide)
    refine ⟨_, (pss_cons (ps_set (i := 1) sc_head_in.nd rfl (by first | exact Or.inl rfl | exact Or.inr rfl) (pe_methP (pv 0) (AOne.alt L_Numbers__number) hr2 (fun σ => passAt (takes_of rfl rfl rfl rfl) σ) (pa_cons pe_int (pa_cons (pe_op op_pow pe_int pe_int) pa_nil))))
      (pss_cons (ps_set (i := 2) sc_head_in.nd rfl (by first | exact Or.inl rfl | exact Or.inr rfl) (pe_methP (pv 0) (AOne.alt L_Numbers__number) hr2 (fun σ => passAt (takes_of rfl rfl rfl rfl) σ) (pa_cons pe_int (pa_cons pe_int pa_nil))))
      (pss_one (ps_ret (pe_tup (pa_cons (pv 1) (pa_cons (pv 2) (pa_cons (pe_lcX (takes_of rfl rfl rfl rfl) rfl rfl (own := [("k", 3)]) rfl sc_head_in.nd (pi_range1 (by rfl) bI_range (pa_cons (pe_methP (pv 0) (AOne.alt L_Numbers__number) hr2 (fun σ => passAt (takes_of rfl rfl rfl rfl) σ) (pa_cons pe_int (pa_cons pe_int pa_nil))) pa_nil)) (blkOk_by (N := ["numbers", "seal", "wide", "k"]) (sc := defScope s_head_in) (by decide +kernel)) (fun _ _ _ _ _ => (pg_name (i := 3) sc_head_in.nd rfl (by first | exact Or.inl rfl | exact Or.inr rfl))) (fun _ _ _ _ _ => pts_nil) (fun _ _ _ _ _ _ _ hpx => (pe_callS G_lane_in hr5 rfl g_lane_in k_lane_in b_lane_in (fun σ => hpx σ) (pa_cons (pv 0) pa_nil)))) pa_nil)))))))), ?_⟩
    unfold m_head_in at P
    have st := Stp.refl (W := [p_numbers]) w
    refine h_set ?_
    refine h_methE ?_
    refine h_var rfl ?_
    refine MuN.meth (m := "number") m_numbers ?_
    refine h_cons ?_
    refine h_c ?_
    refine h_cons ?_
    refine h_op (h_c (h_c (h_pow (k := 1000000000) (by decide +kernel) (by decide +kernel) ?_)))
    refine h_nil ?_
    refine ⟨B0, p_numbers, a_numbers, 0, 1000000000, w, rfl, m_numbers, Post.mono2 P.bind (fun e7 P => ?_) (fun x1 P => ?_)⟩
    · skip
      exact fun C B' H' g s => P C B' H' g (st.go s (go1 (.inl (by simp))))
    refine fun v5 B2 H3 s4 m_numbers r6 => ?_
    replace st := st.go s4 (go1 (.inl (by simp)))
    replace w := s4.ok
    cases r6
    refine h_set ?_
    refine h_methE ?_
    refine h_var rfl ?_
    refine MuN.meth (m := "number") m_numbers ?_
    refine h_cons ?_
    refine h_c ?_
    refine h_cons ?_
    refine h_c ?_
    refine h_nil ?_
    refine ⟨B2, p_numbers, x1.2, 1, 16, w, rfl, m_numbers, Post.mono2 P.bind (fun e14 P => ?_) (fun x8 P => ?_)⟩
    · skip
      exact fun C B' H' g s => P C B' H' g (st.go s (go1 (.inl (by simp))))
    refine fun v12 B9 H10 s11 m_numbers r13 => ?_
    replace st := st.go s11 (go1 (.inl (by simp)))
    replace w := s11.ok
    cases r13
    refine h_ret ?_
    refine h_tup ?_
    refine h_cons ?_
    refine h_var rfl ?_
    refine h_cons ?_
    refine h_var rfl ?_
    refine h_cons ?_
    refine h_lcR1E ?_
    refine h_cons ?_
    refine h_methE ?_
    refine h_var rfl ?_
    refine MuN.meth (m := "number") m_numbers ?_
    refine h_cons ?_
    refine h_c ?_
    refine h_cons ?_
    refine h_c ?_
    refine h_nil ?_
    refine ⟨B9, p_numbers, x8.2, 1, 8, w, rfl, m_numbers, Post.mono2 P.bind (fun e21 P => ?_) (fun x15 P => ?_)⟩
    · skip
      exact fun C B' H' g s => P C B' H' g (st.go s (go1 (.inl (by simp))))
    refine fun v19 B16 H17 s18 m_numbers r20 => ?_
    replace st := st.go s18 (go1 (.inl (by simp)))
    replace w := s18.ok
    cases r20
    refine h_nil ?_
    obtain ⟨gz22, P⟩ := P.guard
    refine h_lcR1 P (fun Dl (acc : List (Tp3 Int Int (List (Tp3 (Tp2 Int Int) (Option (Tp2 Int Int)) (Tp2 Int Int))))) (a : (List D)) H' => ∃ B', Stp [p_numbers] B16 H17 B' H' ∧ H17 Dl = none ∧ FaN K B' H0 H' Dl (acc.map enc) ∧ p_numbers ≠ Dl ∧ MuN K C_Numbers ["row", "at"] B' H' p_numbers a) (fun Dl hD => ⟨_, Stp.newM w hD, hD, FaN.new w hD, MuN.ne m_numbers hD, m_numbers.step (Stp.newM (W := []) w hD) nm0⟩) ?_ ?_ gz22
    · rintro Dl23 N24 T25 x26 acc29 a30 H31 ⟨B32, s33, hD34, m35, ne39, m_numbers⟩ hlox26 hhix26 hz36 kk37 kn38 P
      have wj41 := w
      have sj40 := s33
      have n42 := st.nn hD34
      replace st := st.go s33 (go1 (.inl (by simp)))
      replace w := s33.ok
      refine h_gname ?_
      refine h_lcT rfl ?_
      refine h_callS ?_
      refine h_cons ?_
      refine h_var rfl ?_
      refine h_nil ?_
      refine ⟨B32, p_numbers, a30, w, rfl, m_numbers, Post.mono2 P.bind (fun e49 P => ?_) (fun x43 P => ?_)⟩
      · skip
        exact fun C B' H' g s => P C B' H' g (st.go s (go1 (.inl (by simp))))
      have nf50 := fun (p : Addr) (h : H31 p = none) => st.nn h
      have nf50q := fun (p : Addr) (h : H31 p = none) => FaN.ne m35 h
      refine fun v47 B44 H45 s46 m_numbers rn51 => ?_
      have r48 := rn51.rep
      have rn51q := rn51.ago (ago_q nf50 nf50q)
      replace rn51 := rn51.ago nf50
      replace m35 := m35.step s46 (nm1 ne39.symm)
      replace st := st.go s46 (go1 (.inl (by simp)))
      replace sj40 := sj40.go s46 (go1 (.inl (by simp)))
      replace w := s46.ok
      refine h_appN (b := x43.1) w m35 rn51q hz36 (fun H52 s53 m35 => ?_)
      replace m_numbers := m_numbers.step s53 (nm1 ne39)
      replace st := st.go s53 (go1 (.inr n42))
      replace sj40 := sj40.go s53 (go1 (.inr hD34))
      replace w := s53.ok
      exact kk37 x43.1 x43.2 _ ⟨_, sj40, hD34, m35, ne39, m_numbers⟩ P.ok
    · rintro Dl23 acc29 a30 H31 ⟨B32, s33, hD34, m35, ne39, m_numbers⟩ P
      have n54 := st.nn hD34
      replace st := st.go s33 (go1 (.inl (by simp)))
      replace w := s33.ok
      replace P := P.un2
      refine h_nil ?_
      obtain ⟨B59, e55, k56, g57, r58, rn60⟩ := FaN.keepN m35 n54
      replace st := g57 _ _ _ st w0 n54
      replace m_numbers := m_numbers.kp e55 k56 ne39
      replace w := st.ok
      replace r58 : Rep K B59 (.ref Dl23) (enc acc29) := r58
      refine h_newTN w (K := K) (.cons (Rep.int _) (.cons (Rep.int _) (.cons r58 .nil))) (.cons (.sc (Rep.int _) rfl) (.cons (.sc (Rep.int _) rfl) (.cons rn60 .nil))) (fun p61 B62 H63 s64 r65 rn66 => ?_) (by show 3 ≤ sizeLine; decide)
      replace m_numbers := m_numbers.step s64 nm0
      replace st := st.go s64 go0
      replace w := s64.ok
      replace r65 : Rep K B62 (.ref p61) (enc (⟨x1.1, x8.1, acc29⟩ : (Tp3 Int Int (List (Tp3 Int Int (List (Tp3 (Tp2 Int Int) (Option (Tp2 Int Int)) (Tp2 Int Int)))))))) := r65
      exact P.ok _ _ _ st m_numbers rn66
theorem ok_Numbers____init__ {f : Addr} {fd : FuncData} (F : Fun K "__init__" "Numbers.__init__" s_Numbers____init__ f fd) : FnOk Pr wo K mg base CX0 1 f fd ["self", "row"] (spInitC K ["row", "at"] [.int 0]) := by
  refine F.ok sc_Numbers____init__ (fun vs H Q E h => ?_) (fun cdv A outer s H vs Q E hr h => ?_)
  · obtain ⟨_, _, _, us, rfl, hl, _⟩ := h
    simp only [List.length_cons, List.length_nil] at hl ⊢; omega
  · obtain ⟨C, p, dx, us, rfl, hl, hp, hc, lo, k⟩ := h
    have hl2 : us.length = 1 := by simp only [List.length_cons, List.length_nil] at hl; omega
    match us, hl2 with
    | [u1], _ =>
      refine ⟨_, (pss_cons (ps_fld (pv 0) (pv 1) rfl) (pss_one (ps_fld (pv 0) pe_int rfl))), ?_⟩
      have e1 : putF "row" u1 ([] : List (Str × V)) = ([("row", u1)] : List (Str × V)) := putE
      have h1 : (upd H p (HO.ins C dx (putF "row" u1 ([] : List (Str × V))))) p = some (HO.ins C dx ([("row", u1)] : List (Str × V))) := by rw [e1]; exact upd_same
      have e2 : putF "at" (.int 0) ([("row", u1)] : List (Str × V)) = ([("row", u1), ("at", (.int 0))] : List (Str × V)) := (putS (by decide +kernel) putE)
      have eH : (upd (upd H p (HO.ins C dx (putF "row" u1 ([] : List (Str × V))))) p (HO.ins C dx (putF "at" (.int 0) ([("row", u1)] : List (Str × V))))) = upd H p (HO.ins C dx ([("row", u1), ("at", (.int 0))] : List (Str × V))) := by rw [e1, e2, L2.upd_upd]
      have k2 : Q .non (upd H p (HO.ins C dx ([("row", u1), ("at", (.int 0))] : List (Str × V)))) := k
      rw [← eH] at k2
      exact ⟨_, rfl, _, rfl, p, C, dx, ([] : List (Str × V)), rfl, hp, hc, lo.1, (by show 0 < 1000; decide), _, rfl, p, C, dx, ([("row", u1)] : List (Str × V)), rfl, h1, hc, lo.2.1, (by show 1 < 1000; decide), k2⟩
theorem ok_read_as__head_in__head_body {f : Addr} {fd : FuncData}  (F : Fun K "read_as" "read_as" s_read_as__head_in__head_body f fd) {C_NoBody : Addr} (T_NoBody : ExcR K mg "NoBody" C_NoBody) {C_Numbers : Addr} (T_Numbers : KI K mg "Numbers" C_Numbers) {fi_Numbers : Addr} {di_Numbers : FuncData} (M_Numbers : Mk K C_Numbers fi_Numbers) (lo_Numbers : LaysOk K C_Numbers ["row", "at"]) (bi_Numbers : L2.Binds K di_Numbers ["self", "row"] []) (Gi_Numbers : FnOk Pr wo K mg base CX0 1 fi_Numbers di_Numbers ["self", "row"] (spInitC K ["row", "at"] [.int 0])) {f_head_in : Addr} {d_head_in : FuncData} (g_head_in : mg "head_in" = some (.ref f_head_in)) (k_head_in : PySem.W.keepIn K (.ref f_head_in) = true) (b_head_in : L2.Binds K d_head_in ["numbers"] []) (G_head_in : FnOk Pr wo K mg base (L2.CX Pr wo) 6 f_head_in d_head_in ["numbers"] (sp_head_in K mg C_Numbers)) {f_is_bytes : Addr} {d_is_bytes : FuncData} (g_is_bytes : mg "is_bytes" = some (.ref f_is_bytes)) (k_is_bytes : PySem.W.keepIn K (.ref f_is_bytes) = true) (b_is_bytes : L2.Binds K d_is_bytes ["thing"] []) (G_is_bytes : FnOk Pr wo K mg base CX0 2 f_is_bytes d_is_bytes ["thing"] (sp_is_bytes K)) {f_head_body : Addr} {d_head_body : FuncData} (g_head_body : mg "head_body" = some (.ref f_head_body)) (k_head_body : PySem.W.keepIn K (.ref f_head_body) = true) (b_head_body : L2.Binds K d_head_body ["head"] []) (G_head_body : FnOk Pr wo K mg base (L2.CX Pr wo) 9 f_head_body d_head_body ["head"] (sp_head_body K mg)) : FnOk Pr wo K mg base (L2.CX Pr wo) 10 f fd ["body", "thing_in", "body_of"] (sp_read_as__head_in__head_body K mg f_head_in f_head_body) := by
  refine F.okX sc_read_as__head_in__head_body (fun vs H Q E h => ?_) (fun cdv A outer s H0 vs Q E hr h => ?_)
  · obtain ⟨_, _, _, _, rfl, _⟩ := h; rfl
  · obtain ⟨B0, v_body, a_body, w, rfl, r_body, P⟩ := h
    have w0 := w
    have hu := hu_of hr
    have hu64 := hu64_of hr
    have hu65 := hu65_of hr
    have hr2 : Room 2 _ := hr.mono (by decide)
    have hr6 : Room 6 _ := hr.mono (by decide)
    have hr9 : Room 9 _ := hr.mono (by decide)
    refine ⟨_, (pss_cons (ps_if (pt_not (pt_val (pe_call G_is_bytes hr2 rfl g_is_bytes k_is_bytes b_is_bytes .nil pass0 (pa_cons (pv 0) pa_nil)))) (pss_one (ps_raise rfl (takes_of rfl rfl rfl rfl) (pmk_own PySem.F.excBase_ValueError T_NoBody.ex T_NoBody.g T_NoBody.kp (raises_own T_NoBody.ec.hs T_NoBody.ty) rfl))) pss_nil)
      (pss_cons (ps_set (i := 3) sc_read_as__head_in__head_body.nd rfl (by first | exact Or.inl rfl | exact Or.inr rfl) (pe_callLS 1 G_head_in hr6 k_head_in b_head_in .nil (fun σ => passAt (takes_of rfl rfl rfl rfl) σ) (pa_cons (pe_make M_Numbers Gi_Numbers hr2 rfl T_Numbers.g bi_Numbers .nil pass0 (pa_cons (pv 0) pa_nil)) pa_nil)))
      (pss_cons (ps_if (pt_cmpR (r := rNeD K) (op_neD hu64) (pe_callLS 2 G_head_body hr9 k_head_body b_head_body .nil (fun σ => passAt (takes_of rfl rfl rfl rfl) σ) (pa_cons (pv 3) pa_nil)) (pv 0) (nomark _)) (pss_one (ps_raise rfl (takes_of rfl rfl rfl rfl) (pmk_own PySem.F.excBase_ValueError T_NoBody.ex T_NoBody.g T_NoBody.kp (raises_own T_NoBody.ec.hs T_NoBody.ty) rfl))) pss_nil)
      (pss_one (ps_ret (pv 3)))))), ?_⟩
    unfold m_read_as__head_in__head_body at P
    have st := Stp.refl (W := []) w
    refine h_seq <| h_if ?_
    refine h_tnot ?_
    refine h_tB ?_
    refine h_call ?_
    refine h_cons ?_
    refine h_var rfl ?_
    refine h_nil ?_
    refine ⟨B0, v_body, a_body, w, rfl, (r_body.mono st.ex), (P.bind.noErr).mono (fun x1 P => ?_) (fun _ z => z.elim)⟩
    refine fun v5 B2 H3 s4 r6 => ?_
    replace st := st.go s4 go0
    replace w := s4.ok
    cases r6
    refine h_bl ?_
    refine h_iteN (fun c1 => ?_) (fun c1 => ?_)
    · replace P := P.iteF c1
      exact P.err _ _ _ T_NoBody.g st
    · replace P := P.iteT c1
      refine h_next ?_
      refine h_nx ?_
      refine h_set ?_
      refine h_callLS rfl ?_
      refine h_cons ?_
      refine h_makeE ?_
      refine h_cons ?_
      refine h_var rfl ?_
      refine h_nil ?_
      obtain ⟨x7, hx8, P⟩ := P.asD
      have rc9 := (r_body.mono st.ex)
      rw [hx8] at rc9
      refine h_makeN (xs := [v_body]) (sp := spInitC K ["row", "at"] [.int 0]) (us := [v_body, .int 0]) (ns := ["row", "at"]) (ds := [enc (x7 : (List Int)), .int 0]) (C := C_Numbers) w rfl (.cons rc9 (.cons (Rep.int _) .nil)) (fun x dx H hx Q q => ⟨C_Numbers, x, dx, [v_body], rfl, rfl, hx, T_Numbers.c, lo_Numbers, q⟩) (fun p10 B11 H12 s13 hn14 m15 => ?_)
      have n16 := st.nn hn14
      replace st := st.go s13 go0
      replace w := s13.ok
      refine h_nil ?_
      refine ⟨B11, p10, ([enc (x7 : (List Int)), .int 0] : List D), w, rfl, m15, Post.mono2 P.bind (fun e23 P => ?_) (fun x17 P => ?_)⟩
      · skip
        exact fun C B' H' g s => P C B' H' g (st.go s (go1 (.inr n16)))
      have nf24 := fun (p : Addr) (h : H12 p = none) => st.nn h
      refine fun v21 B18 H19 s20 m15 rn25 => ?_
      have r22 := rn25.rep
      replace rn25 := rn25.ago nf24
      replace st := st.go s20 (go1 (.inr n16))
      replace w := s20.ok
      refine h_seq <| h_if ?_
      refine h_test ?_
      refine h_op ?_
      refine h_callLS rfl ?_
      refine h_cons ?_
      refine h_var rfl ?_
      refine h_nil ?_
      refine ⟨B18, v21, (enc x17.1), w, rfl, r22, Post.mono2 P.bind (fun e32 P => ?_) (fun x26 P => ?_)⟩
      · skip
        exact fun C B' H' g s => P C B' H' g (st.go s go0)
      refine fun p33 B27 H28 s29 hn34 m35 => ?_
      have n37 := st.nn hn34
      replace r22 := r22.mono s29.ex
      replace rn25 := rn25.mono s29.ex
      replace st := st.go s29 go0
      replace w := s29.ok
      obtain ⟨B42, e38, k39, g40, r41⟩ := Mu.keep m35
      replace st := g40 _ _ _ st w0 n37
      replace r22 := r22.mono e38
      replace rn25 := rn25.mono e38
      replace w := st.ok
      replace r41 : Rep K B42 (.ref p33) (enc x26) := r41
      refine h_var rfl ?_
      obtain ⟨gd, P⟩ := P.guard
      refine h_neD (d := (enc x26)) (e := a_body) w r41 (r_body.mono st.ex) gd ?_
      refine h_bl ?_
      refine h_ite (fun c1 => ?_) (fun c1 => ?_)
      · replace P := P.iteT c1
        exact P.err _ _ _ T_NoBody.g st
      · replace P := P.iteF c1
        refine h_next ?_
        refine h_nx ?_
        refine h_ret ?_
        refine h_var rfl ?_
        exact P.ok _ _ _ st rn25
theorem ok_read_head {f : Addr} {fd : FuncData}  (F : Fun K "read_head" "read_head" s_read_head f fd) {f_head_in : Addr} {d_head_in : FuncData} (g_head_in : mg "head_in" = some (.ref f_head_in)) (k_head_in : PySem.W.keepIn K (.ref f_head_in) = true) (b_head_in : L2.Binds K d_head_in ["numbers"] []) (G_head_in : FnOk Pr wo K mg base (L2.CX Pr wo) 6 f_head_in d_head_in ["numbers"] (sp_head_in K mg C_Numbers)) {f_head_body : Addr} {d_head_body : FuncData} (g_head_body : mg "head_body" = some (.ref f_head_body)) (k_head_body : PySem.W.keepIn K (.ref f_head_body) = true) (b_head_body : L2.Binds K d_head_body ["head"] []) (G_head_body : FnOk Pr wo K mg base (L2.CX Pr wo) 9 f_head_body d_head_body ["head"] (sp_head_body K mg)) {f_read_as__head_in__head_body : Addr} {d_read_as__head_in__head_body : FuncData} (g_read_as__head_in__head_body : mg "read_as" = some (.ref f_read_as__head_in__head_body)) (k_read_as__head_in__head_body : PySem.W.keepIn K (.ref f_read_as__head_in__head_body) = true) (b_read_as__head_in__head_body : L2.Binds K d_read_as__head_in__head_body ["body", "thing_in", "body_of"] []) (G_read_as__head_in__head_body : FnOk Pr wo K mg base (L2.CX Pr wo) 10 f_read_as__head_in__head_body d_read_as__head_in__head_body ["body", "thing_in", "body_of"] (sp_read_as__head_in__head_body K mg f_head_in f_head_body)) : FnOk Pr wo K mg base (L2.CX Pr wo) 11 f fd ["body"] (sp_read_head K mg) := by
  refine F.okX sc_read_head (fun vs H Q E h => ?_) (fun cdv A outer s H0 vs Q E hr h => ?_)
  · obtain ⟨_, _, _, _, rfl, _⟩ := h; rfl
  · obtain ⟨B0, v_body, a_body, w, rfl, r_body, P⟩ := h
    have w0 := w
    have hu := hu_of hr
    have hu64 := hu64_of hr
    have hu65 := hu65_of hr
    have hr6 : Room 6 _ := hr.mono (by decide)
    have hr9 : Room 9 _ := hr.mono (by decide)
    have hr10 : Room 10 _ := hr.mono (by decide)
    refine ⟨_, (pss_one (ps_ret (pe_callS G_read_as__head_in__head_body hr10 rfl g_read_as__head_in__head_body k_read_as__head_in__head_body b_read_as__head_in__head_body (fun σ => passAt (takes_of rfl rfl rfl rfl) σ) (pa_cons (pv 0) (pa_cons (pe_glob (v := .ref f_head_in) (by rfl) g_head_in rfl) (pa_cons (pe_glob (v := .ref f_head_body) (by rfl) g_head_body rfl) pa_nil)))))), ?_⟩
    unfold m_read_head at P
    have st := Stp.refl (W := []) w
    refine h_ret ?_
    refine h_callS ?_
    refine h_cons ?_
    refine h_var rfl ?_
    refine h_cons ?_
    refine h_c ?_
    refine h_cons ?_
    refine h_c ?_
    refine h_nil ?_
    refine ⟨B0, v_body, a_body, w, rfl, (r_body.mono st.ex), Post.mono2 P.bind (fun e7 P => ?_) (fun x1 P => ?_)⟩
    · skip
      exact fun C B' H' g s => P C B' H' g (st.go s go0)
    have nf8 := fun (p : Addr) (h : H0 p = none) => st.nn h
    refine fun v5 B2 H3 s4 rn9 => ?_
    have r6 := rn9.rep
    replace rn9 := rn9.ago nf8
    replace st := st.go s4 go0
    replace w := s4.ok
    exact P.ok _ _ _ st rn9
theorem ok__law_digit {f : Addr} {fd : FuncData}  (F : Fun K "_law_digit" "_law_digit" s__law_digit f fd) (bI_len : mg "len" = none) : FnOk Pr wo K mg base CX0 1 f fd ["_law_state", "_law_base"] (sp__law_digit K) := by
  refine F.ok sc__law_digit (fun vs H Q E h => ?_) (fun cdv A outer s H0 vs Q E hr h => ?_)
  · obtain ⟨_, _, _, _, _, rfl, _⟩ := h; rfl
  · obtain ⟨B0, p_state, a_state, a_base, w, rfl, m_state, P⟩ := h
    have w0 := w
    have hu := hu_of hr
    have hu64 := hu64_of hr
    have hu65 := hu65_of hr
    refine ⟨_, (pss_cons (ps_if (pt_cmpR op_eq (pe_callB (r := rLenY K) cr_len (by rfl) bI_len PySem.boot_len (pa_cons (pv 0) pa_nil)) pe_int (nomark _)) (pss_one (ps_expr (pe_bm PySem.F.plainAttrs_list PySem.F.slot_list_extend PySem.F.type_list_extend mt_extend (pv 0) (pa_cons (pe_lst (pa_cons (pe_op op_mod (pe_ix (r := rIxL K) ix_list (pv 0) pe_int (fun _ _ => rfl)) pe_int) (pa_cons pe_int pa_nil))) pa_nil)))) pss_nil)
      (pss_cons (ps_if (pt_cmpR op_ge (pe_ix (r := rIxL K) ix_list (pv 0) pe_int (fun _ _ => rfl)) (pv 1) (nomark _)) (pss_cons (ps_set (i := 2) sc__law_digit.nd rfl (by first | exact Or.inl rfl | exact Or.inr rfl) (pe_op op_mod (pe_ix (r := rIxL K) ix_list (pv 0) pe_int (fun _ _ => rfl)) (pv 1)))
      (pss_cons (ps_asg (pe_op op_fdivW (pe_ix (r := rIxL K) ix_list (pv 0) pe_int (fun _ _ => rfl)) (pv 1)) (pg_sub (pv 0) pe_int set_list))
      (pss_one (ps_ret (pv 2))))) pss_nil)
      (pss_cons (ps_asg (pe_op op_add (pe_ix (r := rIxL K) ix_list (pv 0) pe_int (fun _ _ => rfl)) pe_int) (pg_sub (pv 0) pe_int set_list))
      (pss_cons (ps_set (i := 3) sc__law_digit.nd rfl (by first | exact Or.inl rfl | exact Or.inr rfl) (pe_op op_mod (pe_op op_mul (pe_op op_add (pe_op op_add (pe_ix (r := rIxL K) ix_list (pv 0) pe_int (fun _ _ => rfl)) (pe_op op_mul pe_int (pe_ix (r := rIxL K) ix_list (pv 0) pe_int (fun _ _ => rfl)))) pe_int) pe_int) pe_int))
      (pss_cons (ps_set (i := 3) sc__law_digit.nd rfl (by first | exact Or.inl rfl | exact Or.inr rfl) (pe_op op_mod (pe_op op_mulW (pv 3) (pe_op op_add (pe_op op_fdiv (pv 3) pe_int) pe_int)) pe_int))
      (pss_one (ps_ret (pe_op op_mod (pe_op op_mod (pe_op op_mulW (pv 3) (pe_op op_add (pe_op op_fdiv (pv 3) pe_int) pe_int)) pe_int) (pv 1))))))))), ?_⟩
    unfold l_digit at P
    have st := Stp.refl (W := [p_state]) w
    have wj2 := w
    have sj1 := Stp.refl (W := [p_state]) w
    refine h_joinS P (fun (a : (List Int)) σ' H' => ∃ (B' : Hp), Stp [p_state] B0 H0 B' H' ∧ σ' = [some ((.ref p_state)), some (.int a_base), none, none] ∧ Mu K B' H' p_state (a.map enc)) (fun N kk3 P => h_if ?_) ?_
    · skip
      refine h_test ?_
      refine h_op ?_
      refine h_cb ?_
      refine h_cons ?_
      refine h_var rfl ?_
      refine h_nil ?_
      obtain ⟨xs5, hv, hs6, hr7⟩ := Mu.sq m_state
      refine h_len hs6 hr7 ?_
      refine h_c ?_
      refine h_eqI ?_
      refine h_bl ?_
      refine h_ite (fun c1 => ?_) (fun c1 => ?_)
      · replace P := P.iteT c1
        refine h_drop ?_
        refine h_bm ?_
        refine h_var rfl ?_
        refine h_bmL m_state ?_
        refine h_cons ?_
        refine h_lst ?_
        refine h_cons ?_
        refine h_op ?_
        refine h_op ?_
        refine h_var rfl ?_
        refine h_c ?_
        obtain ⟨xs9, hv, hs10, hr11⟩ := Mu.sq m_state
        obtain ⟨x12, hx13, P⟩ := P.ix
        obtain ⟨u14, hu, r15⟩ := RepL.atE hr11 hx13
        refine h_ixL hs10 hu ?_
        cases r15
        refine h_c ?_
        refine h_I (by decide +kernel) ?_
        refine h_cons ?_
        refine h_c ?_
        refine h_nil ?_
        refine h_newM w (ds := (([(x12 % 2147483647), 0] : List Int)).map enc) (K := K) (.cons (Rep.int _) (.cons (Rep.int _) .nil)) (fun p16 H17 hn20 s18 m19 => ?_) (by show 2 ≤ sizeLine; decide)
        have n21 := st.nn hn20
        have n22 := sj1.nn hn20
        have ne23 := Mu.ne m_state hn20
        replace m_state := m_state.step s18 nm0
        replace st := st.go s18 go0
        replace sj1 := sj1.go s18 go0
        replace w := s18.ok
        refine h_nil ?_
        obtain ⟨gd, P⟩ := P.guard
        refine h_extend w m_state m19 gd (fun H24 s25 m_state => ?_)
        replace st := st.go s25 (go1 (.inl (by simp)))
        replace sj1 := sj1.go s25 (go1 (.inl (by simp)))
        replace w := s25.ok
        refine h_nx ?_
        exact kk3 (a_state ++ ([(x12 % 2147483647), 0] : List Int)) _ _ ⟨_, sj1, rfl, m_state⟩ P.ok
      · replace P := P.iteF c1
        refine h_next ?_
        refine h_nx ?_
        exact kk3 a_state _ _ ⟨_, sj1, rfl, m_state⟩ P.ok
    rintro a26 _ H28 ⟨B27, s29, rfl, m_state⟩ P
    replace st := st.go s29 (go1 (.inl (by simp)))
    replace w := s29.ok
    refine h_seq <| h_if ?_
    refine h_test ?_
    refine h_op ?_
    refine h_op ?_
    refine h_var rfl ?_
    refine h_c ?_
    obtain ⟨xs31, hv, hs32, hr33⟩ := Mu.sq m_state
    obtain ⟨x34, hx35, P⟩ := P.ix
    obtain ⟨u36, hu, r37⟩ := RepL.atE hr33 hx35
    refine h_ixL hs32 hu ?_
    cases r37
    refine h_var rfl ?_
    refine h_I0 ?_
    refine h_bl ?_
    refine h_ite (fun c1 => ?_) (fun c1 => ?_)
    · replace P := P.iteT c1
      refine h_set ?_
      refine h_op ?_
      refine h_op ?_
      refine h_var rfl ?_
      refine h_c ?_
      obtain ⟨xs39, hv, hs40, hr41⟩ := Mu.sq m_state
      obtain ⟨x42, hx43, P⟩ := P.ix
      obtain ⟨u44, hu, r45⟩ := RepL.atE hr41 hx43
      refine h_ixL hs40 hu ?_
      cases r45
      refine h_var rfl ?_
      obtain ⟨gd, P⟩ := P.guard
      refine h_I gd ?_
      replace P := P.lt
      generalize hx : (x42 % a_base) = x46 at P ⊢
      refine h_seq ?_
      refine h_asg ?_
      refine h_op ?_
      refine h_op ?_
      refine h_var rfl ?_
      refine h_c ?_
      obtain ⟨xs48, hv, hs49, hr50⟩ := Mu.sq m_state
      obtain ⟨x51, hx52, P⟩ := P.ix
      obtain ⟨u53, hu, r54⟩ := RepL.atE hr50 hx52
      refine h_ixL hs49 hu ?_
      cases r54
      refine h_var rfl ?_
      obtain ⟨gd, P⟩ := P.guard
      refine h_I gd ?_
      refine h_sub ?_
      refine h_var rfl ?_
      refine h_c ?_
      obtain ⟨j56, hj57, P⟩ := P.set
      refine h_setL (b := (x51 / a_base)) w m_state (Rep.int _) hj57 (fun H58 s59 m_state => ?_)
      replace st := st.go s59 (go1 (.inl (by simp)))
      replace w := s59.ok
      generalize hl : List.set a26 j56 (x51 / a_base) = x55 at *
      refine h_nx ?_
      refine h_ret ?_
      refine h_var rfl ?_
      exact P.ok _ _ _ st m_state (Rep.int _)
    · replace P := P.iteF c1
      refine h_next ?_
      refine h_nx ?_
      refine h_seq ?_
      refine h_asg ?_
      refine h_op ?_
      refine h_op ?_
      refine h_var rfl ?_
      refine h_c ?_
      obtain ⟨xs61, hv, hs62, hr63⟩ := Mu.sq m_state
      obtain ⟨x64, hx65, P⟩ := P.ix
      obtain ⟨u66, hu, r67⟩ := RepL.atE hr63 hx65
      refine h_ixL hs62 hu ?_
      cases r67
      refine h_c ?_
      refine h_I0 ?_
      refine h_sub ?_
      refine h_var rfl ?_
      refine h_c ?_
      obtain ⟨j69, hj70, P⟩ := P.set
      refine h_setL (b := (x64 + 1)) w m_state (Rep.int _) hj70 (fun H71 s72 m_state => ?_)
      replace st := st.go s72 (go1 (.inl (by simp)))
      replace w := s72.ok
      generalize hl : List.set a26 j69 (x64 + 1) = x68 at *
      refine h_nx ?_
      refine h_set ?_
      refine h_op ?_
      refine h_op ?_
      refine h_op ?_
      refine h_op ?_
      refine h_op ?_
      refine h_var rfl ?_
      refine h_c ?_
      obtain ⟨xs74, hv, hs75, hr76⟩ := Mu.sq m_state
      obtain ⟨x77, hx78, P⟩ := P.ix
      obtain ⟨u79, hu, r80⟩ := RepL.atE hr76 hx78
      refine h_ixL hs75 hu ?_
      cases r80
      refine h_op ?_
      refine h_c ?_
      refine h_op ?_
      refine h_var rfl ?_
      refine h_c ?_
      obtain ⟨xs82, hv, hs83, hr84⟩ := Mu.sq m_state
      obtain ⟨x85, hx86, P⟩ := P.ix
      obtain ⟨u87, hu, r88⟩ := RepL.atE hr84 hx86
      refine h_ixL hs83 hu ?_
      cases r88
      refine h_I (.inl ⟨by decide +kernel, by decide +kernel⟩) ?_
      refine h_I0 ?_
      refine h_c ?_
      refine h_I0 ?_
      refine h_c ?_
      refine h_I (.inr ⟨by decide +kernel, by decide +kernel⟩) ?_
      refine h_c ?_
      refine h_I (by decide +kernel) ?_
      replace P := P.lt
      generalize hx : ((((x77 + (7919 * x85)) + 1) * 48271) % 2147483647) = x89 at P ⊢
      refine h_set ?_
      refine h_op ?_
      refine h_op ?_
      refine h_var rfl ?_
      refine h_op ?_
      refine h_op ?_
      refine h_var rfl ?_
      refine h_c ?_
      refine h_I ⟨by decide +kernel, by decide +kernel⟩ ?_
      refine h_c ?_
      refine h_I0 ?_
      obtain ⟨gd, P⟩ := P.guard
      refine h_I gd ?_
      refine h_c ?_
      refine h_I (by decide +kernel) ?_
      replace P := P.lt
      generalize hx : ((x89 * ((x89 / 1009) + 69621)) % 2147483647) = x90 at P ⊢
      refine h_ret ?_
      refine h_op ?_
      refine h_op ?_
      refine h_op ?_
      refine h_var rfl ?_
      refine h_op ?_
      refine h_op ?_
      refine h_var rfl ?_
      refine h_c ?_
      refine h_I ⟨by decide +kernel, by decide +kernel⟩ ?_
      refine h_c ?_
      refine h_I0 ?_
      obtain ⟨gd, P⟩ := P.guard
      refine h_I gd ?_
      refine h_c ?_
      refine h_I (by decide +kernel) ?_
      refine h_var rfl ?_
      obtain ⟨gd, P⟩ := P.guard
      refine h_I gd ?_
      exact P.ok _ _ _ st m_state (Rep.int _)
theorem ok__law_shared {f : Addr} {fd : FuncData}  (F : Fun K "_law_shared" "_law_shared" s__law_shared f fd) (bI_abs : mg "abs" = none) : FnOk Pr wo K mg base CX0 1 f fd ["_law_one", "_law_other"] (sp__law_shared K) := by
  refine F.ok sc__law_shared (fun vs H Q E h => ?_) (fun cdv A outer s H0 vs Q E hr h => ?_)
  · obtain ⟨_, _, _, _, rfl, _⟩ := h; rfl
  · obtain ⟨B0, a_one, a_other, w, rfl, P⟩ := h
    have w0 := w
    have hu := hu_of hr
    have hu64 := hu64_of hr
    have hu65 := hu65_of hr
    refine ⟨_, (pss_cons (ps_set (i := 0) sc__law_shared.nd rfl (by first | exact Or.inl rfl | exact Or.inr rfl) (pe_callB cr_abs (by rfl) bI_abs PyProof.Rows.boot_abs (pa_cons (pv 0) pa_nil)))
      (pss_cons (ps_set (i := 1) sc__law_shared.nd rfl (by first | exact Or.inl rfl | exact Or.inr rfl) (pe_callB cr_abs (by rfl) bI_abs PyProof.Rows.boot_abs (pa_cons (pv 1) pa_nil)))
      (pss_cons (ps_while PassesOwn.never (pt_cmpR op_gt (pv 1) pe_int (nomark _)) (pss_one (ps_par rfl sc__law_shared.nd (i := 0) (j := 1) rfl rfl (by decide) rfl rfl (pa_cons (pv 1) (pa_cons (pe_op op_mod (pv 0) (pv 1)) pa_nil)) rfl)))
      (pss_one (ps_ret (pv 0)))))), ?_⟩
    unfold l_shared at P
    have st := Stp.refl (W := []) w
    refine h_set ?_
    refine h_cb ?_
    refine h_cons ?_
    refine h_var rfl ?_
    refine h_nil ?_
    refine h_abs ?_
    replace P := P.lt
    generalize hx : (absI a_one) = x1 at P ⊢
    refine h_set ?_
    refine h_cb ?_
    refine h_cons ?_
    refine h_var rfl ?_
    refine h_nil ?_
    refine h_abs ?_
    replace P := P.lt
    generalize hx : (absI a_other) = x2 at P ⊢
    refine h_seq ?_
    have wj4 := w
    have sj3 := Stp.refl (W := []) w
    refine h_while P (fun (a : Int × Int) σ' H' => ∃ (B' : Hp), Stp [] B0 H0 B' H' ∧ σ' = [some (.int a.1), some (.int a.2)]) ⟨_, sj3, rfl⟩ ?_ ?_
    · rintro N5 C6 T7 a12 _ H14 ⟨B13, s15, rfl⟩ kn8 kk9 kr10 kb11 P
      replace st := st.go s15 go0
      replace w := s15.ok
      have sj3 := s15
      refine h_test ?_
      refine h_op ?_
      refine h_var rfl ?_
      refine h_c ?_
      refine h_I0 ?_
      refine h_bl ?_
      refine h_ite (fun c1 => ?_) (fun c1 => ?_)
      · replace P := P.iteT c1
        refine ⟨N5, kn8, ?_⟩
        refine h_par ?_
        refine h_cons ?_
        refine h_var rfl ?_
        refine h_cons ?_
        refine h_op ?_
        refine h_var rfl ?_
        refine h_var rfl ?_
        obtain ⟨gd, P⟩ := P.guard
        refine h_I gd ?_
        refine h_nil ?_
        refine h_two ?_
        replace P := P.lt
        generalize hx : (a12.1 % a12.2) = x16 at P ⊢
        refine h_nx ?_
        exact kk9 (a12.2, x16) _ _ ⟨_, sj3, rfl⟩ P.ok
      · replace P := P.iteF c1
        exact kb11 (a12.1, a12.2) _ _ ⟨_, sj3, rfl⟩ P.ok
    · rintro a17 _ H19 ⟨B18, s20, rfl⟩ P
      replace st := st.go s20 go0
      replace w := s20.ok
      refine h_nx ?_
      refine h_ret ?_
      refine h_var rfl ?_
      exact P.ok _ _ _ st (Rep.int _)
theorem ok__law_lowest {f : Addr} {fd : FuncData}  (F : Fun K "_law_lowest" "_law_lowest" s__law_lowest f fd) {f__law_shared : Addr} {d__law_shared : FuncData} (g__law_shared : mg "_law_shared" = some (.ref f__law_shared)) (k__law_shared : PySem.W.keepIn K (.ref f__law_shared) = true) (b__law_shared : L2.Binds K d__law_shared ["_law_one", "_law_other"] []) (G__law_shared : FnOk Pr wo K mg base CX0 1 f__law_shared d__law_shared ["_law_one", "_law_other"] (sp__law_shared K)) : FnOk Pr wo K mg base CX0 2 f fd ["_law_top", "_law_bottom"] (sp__law_lowest K) := by
  refine F.ok sc__law_lowest (fun vs H Q E h => ?_) (fun cdv A outer s H0 vs Q E hr h => ?_)
  · obtain ⟨_, _, _, _, rfl, _⟩ := h; rfl
  · obtain ⟨B0, a_top, a_bottom, w, rfl, P⟩ := h
    have w0 := w
    have hu := hu_of hr
    have hu64 := hu64_of hr
    have hu65 := hu65_of hr
    have hr1 : Room 1 _ := hr.mono (by decide)
    refine ⟨_, (pss_cons (ps_set (i := 2) sc__law_lowest.nd rfl (by first | exact Or.inl rfl | exact Or.inr rfl) (pe_call G__law_shared hr1 rfl g__law_shared k__law_shared b__law_shared .nil pass0 (pa_cons (pv 0) (pa_cons (pv 1) pa_nil))))
      (pss_one (ps_ret (pe_tup (pa_cons (pe_op op_fdivW (pv 0) (pv 2)) (pa_cons (pe_op op_fdivW (pv 1) (pv 2)) pa_nil)))))), ?_⟩
    unfold l_lowest at P
    have st := Stp.refl (W := []) w
    refine h_set ?_
    refine h_call ?_
    refine h_cons ?_
    refine h_var rfl ?_
    refine h_cons ?_
    refine h_var rfl ?_
    refine h_nil ?_
    refine ⟨B0, a_top, a_bottom, w, rfl, (P.bind).mono (fun x1 P => ?_) (fun _ z => z)⟩
    refine fun v5 B2 H3 s4 r6 => ?_
    replace st := st.go s4 go0
    replace w := s4.ok
    cases r6
    refine h_ret ?_
    refine h_tup ?_
    refine h_cons ?_
    refine h_op ?_
    refine h_var rfl ?_
    refine h_var rfl ?_
    obtain ⟨gd, P⟩ := P.guard
    refine h_I gd ?_
    refine h_cons ?_
    refine h_op ?_
    refine h_var rfl ?_
    refine h_var rfl ?_
    obtain ⟨gd, P⟩ := P.guard
    refine h_I gd ?_
    refine h_nil ?_
    refine h_newT w (K := K) (.cons (Rep.int _) (.cons (Rep.int _) .nil)) (fun p7 B8 H9 s10 r11 => ?_) (by show 2 ≤ sizeLine; decide)
    replace st := st.go s10 go0
    replace w := s10.ok
    replace r11 : Rep K B8 (.ref p7) (enc (⟨(a_top / x1), (a_bottom / x1)⟩ : (Tp2 Int Int))) := r11
    exact P.ok _ _ _ st r11
theorem ok__law_figures {f : Addr} {fd : FuncData}  (F : Fun K "_law_figures" "_law_figures" s__law_figures f fd)  : FnOk Pr wo K mg base CX0 1 f fd ["_law_number"] (sp__law_figures K) := by
  refine F.ok sc__law_figures (fun vs H Q E h => ?_) (fun cdv A outer s H0 vs Q E hr h => ?_)
  · obtain ⟨_, _, _, rfl, _⟩ := h; rfl
  · obtain ⟨B0, a_number, w, rfl, P⟩ := h
    have w0 := w
    have hu := hu_of hr
    have hu64 := hu64_of hr
    have hu65 := hu65_of hr
    refine ⟨_, (pss_cons (ps_set (i := 1) sc__law_figures.nd rfl (by first | exact Or.inl rfl | exact Or.inr rfl) (pe_lst (pa_cons (pe_op op_mod (pv 0) pe_int) pa_nil)))
      (pss_cons (ps_while PassesOwn.never (pt_cmpR op_ge (pv 0) pe_int (nomark _)) (pss_cons (ps_set (i := 0) sc__law_figures.nd rfl (by first | exact Or.inl rfl | exact Or.inr rfl) (pe_op op_fdiv (pv 0) pe_int))
      (pss_one (ps_set (i := 1) sc__law_figures.nd rfl (by first | exact Or.inl rfl | exact Or.inr rfl) (pe_op (r := rCatQ K) op_catQ (pe_lst (pa_cons (pe_op op_add pe_int (pe_op op_mod (pv 0) pe_int)) pa_nil)) (pv 1))))))
      (pss_one (ps_ret (pv 1))))), ?_⟩
    unfold l_figures at P
    have st := Stp.refl (W := []) w
    refine h_set ?_
    refine h_lst ?_
    refine h_cons ?_
    refine h_op ?_
    refine h_var rfl ?_
    refine h_c ?_
    refine h_I (by decide +kernel) ?_
    refine h_nil ?_
    refine h_newM w (ds := (([(a_number % 128)] : List Int)).map enc) (K := K) (.cons (Rep.int _) .nil) (fun p1 H2 hn5 s3 m4 => ?_) (by show 1 ≤ sizeLine; decide)
    have n6 := st.nn hn5
    replace st := st.go s3 go0
    replace w := s3.ok
    refine h_seq ?_
    have wj8 := w
    have sj7 := Stp.refl (W := []) w
    refine h_while P (fun (a : Int × (List Int)) σ' H' => ∃ (B' : Hp) (p__law_found : Addr), Stp [] B0 H2 B' H' ∧ σ' = [some (.int a.1), some (.ref p__law_found)] ∧ Mu K B' H' p__law_found (a.2.map enc) ∧ H0 p__law_found = none) ⟨_, p1, sj7, rfl, m4, n6⟩ ?_ ?_
    · rintro N9 C10 T11 a16 _ H18 ⟨B17, p20, s19, rfl, m21, n22⟩ kn12 kk13 kr14 kb15 P
      replace st := st.go s19 go0
      replace w := s19.ok
      have sj7 := s19
      refine h_test ?_
      refine h_op ?_
      refine h_var rfl ?_
      refine h_c ?_
      refine h_I0 ?_
      refine h_bl ?_
      refine h_ite (fun c1 => ?_) (fun c1 => ?_)
      · replace P := P.iteT c1
        refine ⟨N9, kn12, ?_⟩
        refine h_set ?_
        refine h_op ?_
        refine h_var rfl ?_
        refine h_c ?_
        refine h_I ⟨by decide +kernel, by decide +kernel⟩ ?_
        replace P := P.lt
        generalize hx : (a16.1 / 128) = x23 at P ⊢
        refine h_set1 ?_
        refine h_op ?_
        refine h_lst ?_
        refine h_cons ?_
        refine h_op ?_
        refine h_c ?_
        refine h_op ?_
        refine h_var rfl ?_
        refine h_c ?_
        refine h_I (by decide +kernel) ?_
        refine h_I0 ?_
        refine h_nil ?_
        refine h_newL w (ds := (([(128 + (x23 % 128))] : List Int)).map enc) (K := K) (.cons (Rep.int _) .nil) (fun p24 B25 H26 s27 r28 => ?_) (by show 1 ≤ sizeLine; decide)
        replace m21 := m21.step s27 nm0
        replace st := st.go s27 go0
        replace sj7 := sj7.go s27 go0
        replace w := s27.ok
        replace r28 : Rep K B25 (.ref p24) (enc ([(128 + (x23 % 128))] : List Int)) := r28
        refine h_var rfl ?_
        obtain ⟨p29, xs30, hv, hs31, hr32⟩ := Rep.sq w r28
        cases hv
        obtain ⟨xs34, hv, hs35, hr36⟩ := Mu.sq m21
        obtain ⟨gd, P⟩ := P.guard
        refine h_cat hs31 hs35 (by have g := gd; simp only [hr32.length, hr36.length, List.length_map] at g ⊢; exact Nat.le_trans g (by decide)) ?_
        refine h_nwM w (ds := ((([(128 + (x23 % 128))] : List Int) ++ a16.2)).map enc) (K := K) (RepL.cat hr32 hr36) (fun p37 H38 hn41 s39 m40 => ?_) 
        have n42 := st.nn hn41
        have n43 := sj7.nn hn41
        have ne44 := Mu.ne m21 hn41
        replace m21 := m21.step s39 nm0
        replace st := st.go s39 go0
        replace sj7 := sj7.go s39 go0
        replace w := s39.ok
        refine h_nx ?_
        exact kk13 (x23, (([(128 + (x23 % 128))] : List Int) ++ a16.2)) _ _ ⟨_, p37, sj7, rfl, m40, n42⟩ P.ok
      · replace P := P.iteF c1
        exact kb15 (a16.1, a16.2) _ _ ⟨_, p20, sj7, rfl, m21, n22⟩ P.ok
    · rintro a45 _ H47 ⟨B46, p49, s48, rfl, m50, n51⟩ P
      replace st := st.go s48 go0
      replace w := s48.ok
      refine h_nx ?_
      refine h_ret ?_
      refine h_var rfl ?_
      exact P.ok _ _ _ st n51 m50
theorem ok__law_edit_numbers {f : Addr} {fd : FuncData}  (F : Fun K "_law_edit_numbers" "_law_edit_numbers" s__law_edit_numbers f fd)  : FnOk Pr wo K mg base CX0 1 f fd ["_law_row"] (sp__law_edit_numbers K) := by
  refine F.ok sc__law_edit_numbers (fun vs H Q E h => ?_) (fun cdv A outer s H0 vs Q E hr h => ?_)
  · obtain ⟨_, _, _, _, rfl, _⟩ := h; rfl
  · obtain ⟨B0, v_row, a_row, w, rfl, r_row, P⟩ := h
    have w0 := w
    have hu := hu_of hr
    have hu64 := hu64_of hr
    have hu65 := hu65_of hr
    refine ⟨_, (pss_cons (ps_asg (pv 0) (pg_tupK (K := K) (n := 3) rfl rfl (pgs_cons (pg_name (i := 1) sc__law_edit_numbers.nd rfl (by first | exact Or.inl rfl | exact Or.inr rfl)) (pgs_cons (pg_name (i := 2) sc__law_edit_numbers.nd rfl (by first | exact Or.inl rfl | exact Or.inr rfl)) (pgs_cons (pg_name (i := 3) sc__law_edit_numbers.nd rfl (by first | exact Or.inl rfl | exact Or.inr rfl)) pgs_nil)))))
      (pss_cons (ps_if (pt_cmpR op_isNn (pv 2) pe_non (nomark _)) (pss_one (ps_ret (pe_lst (pa_cons (pe_ix (r := rIxT K) ix_tup (pv 1) pe_int (fun _ _ => rfl)) (pa_cons (pe_ix (r := rIxT K) ix_tup (pv 1) pe_int (fun _ _ => rfl)) (pa_cons pe_int pa_nil)))))) pss_nil)
      (pss_one (ps_ret (pe_lst (pa_cons (pe_ix (r := rIxT K) ix_tup (pv 1) pe_int (fun _ _ => rfl)) (pa_cons (pe_ix (r := rIxT K) ix_tup (pv 1) pe_int (fun _ _ => rfl)) (pa_cons pe_int (pa_cons (pe_ix (r := rIxT K) ix_tup (pv 2) pe_int (fun _ _ => rfl)) (pa_cons (pe_ix (r := rIxT K) ix_tup (pv 2) pe_int (fun _ _ => rfl)) (pa_cons (pe_ix (r := rIxT K) ix_tup (pv 3) pe_int (fun _ _ => rfl)) (pa_cons (pe_ix (r := rIxT K) ix_tup (pv 3) pe_int (fun _ _ => rfl)) pa_nil)))))))))))), ?_⟩
    unfold l_edit_numbers at P
    have st := Stp.refl (W := []) w
    refine h_seq ?_
    refine h_asg ?_
    refine h_var rfl ?_
    obtain ⟨p1, xs2, rfl, hs3, hr4⟩ := Rep.st w (r_row.mono st.ex)
    obtain ⟨u5, u7, u9, rfl, r6, r8, r10⟩ := RepL.open3 hr4
    refine h_tupG hs3 rfl ?_
    refine h_gcons ?_
    refine h_gname ?_
    refine h_gcons ?_
    refine h_gname ?_
    refine h_gcons ?_
    refine h_gname ?_
    refine h_gnil ?_
    refine h_nx ?_
    refine h_seq <| h_if ?_
    refine h_test ?_
    refine h_op ?_
    refine h_var rfl ?_
    refine h_c ?_
    refine h_isN r8 ?_
    refine h_bl ?_
    refine h_ite (fun c1 => ?_) (fun c1 => ?_)
    · replace P := P.iteT c1
      refine h_ret ?_
      refine h_lst ?_
      refine h_cons ?_
      refine h_op ?_
      refine h_var rfl ?_
      refine h_c ?_
      obtain ⟨p11, xs12, rfl, hs13, hr14⟩ := Rep.st w r6
      obtain ⟨u15, hu, r16⟩ := RepL.at hr14 (i := 0) rfl
      refine h_ixT hs13 hu ?_
      cases r16
      refine h_cons ?_
      refine h_op ?_
      refine h_var rfl ?_
      refine h_c ?_
      obtain ⟨p17, xs18, hv, hs19, hr20⟩ := Rep.st w r6
      cases hv
      obtain ⟨u21, hu, r22⟩ := RepL.at hr20 (i := 1) rfl
      refine h_ixT hs19 hu ?_
      cases r22
      refine h_cons ?_
      refine h_c ?_
      refine h_nil ?_
      refine h_newL w (ds := (([a_row.a.a, a_row.a.b, 0] : List Int)).map enc) (K := K) (.cons (Rep.int _) (.cons (Rep.int _) (.cons (Rep.int _) .nil))) (fun p23 B24 H25 s26 r27 => ?_) (by show 3 ≤ sizeLine; decide)
      replace r6 := r6.mono s26.ex
      replace r8 := r8.mono s26.ex
      replace r10 := r10.mono s26.ex
      replace st := st.go s26 go0
      replace w := s26.ok
      replace r27 : Rep K B24 (.ref p23) (enc ([a_row.a.a, a_row.a.b, 0] : List Int)) := r27
      exact P.ok _ _ _ st r27
    · replace P := P.iteF c1
      refine h_next ?_
      refine h_nx ?_
      refine h_ret ?_
      refine h_lst ?_
      refine h_cons ?_
      refine h_op ?_
      refine h_var rfl ?_
      refine h_c ?_
      obtain ⟨p28, xs29, rfl, hs30, hr31⟩ := Rep.st w r6
      obtain ⟨u32, hu, r33⟩ := RepL.at hr31 (i := 0) rfl
      refine h_ixT hs30 hu ?_
      cases r33
      refine h_cons ?_
      refine h_op ?_
      refine h_var rfl ?_
      refine h_c ?_
      obtain ⟨p34, xs35, hv, hs36, hr37⟩ := Rep.st w r6
      cases hv
      obtain ⟨u38, hu, r39⟩ := RepL.at hr37 (i := 1) rfl
      refine h_ixT hs36 hu ?_
      cases r39
      refine h_cons ?_
      refine h_c ?_
      refine h_cons ?_
      refine h_op ?_
      refine h_var rfl ?_
      refine h_c ?_
      obtain ⟨x40, hx41, P⟩ := P.some
      have rc42 := r8
      rw [hx41] at rc42
      replace rc42 : Rep K B0 u7 (enc x40) := rc42
      obtain ⟨p43, xs44, rfl, hs45, hr46⟩ := Rep.st w rc42
      obtain ⟨u47, hu, r48⟩ := RepL.at hr46 (i := 0) rfl
      refine h_ixT hs45 hu ?_
      cases r48
      refine h_cons ?_
      refine h_op ?_
      refine h_var rfl ?_
      refine h_c ?_
      obtain ⟨x49, hx50, P⟩ := P.some
      have rc51 := r8
      rw [hx50] at rc51
      replace rc51 : Rep K B0 (.ref p43) (enc x49) := rc51
      obtain ⟨p52, xs53, hv, hs54, hr55⟩ := Rep.st w rc51
      cases hv
      obtain ⟨u56, hu, r57⟩ := RepL.at hr55 (i := 1) rfl
      refine h_ixT hs54 hu ?_
      cases r57
      refine h_cons ?_
      refine h_op ?_
      refine h_var rfl ?_
      refine h_c ?_
      obtain ⟨p58, xs59, rfl, hs60, hr61⟩ := Rep.st w r10
      obtain ⟨u62, hu, r63⟩ := RepL.at hr61 (i := 0) rfl
      refine h_ixT hs60 hu ?_
      cases r63
      refine h_cons ?_
      refine h_op ?_
      refine h_var rfl ?_
      refine h_c ?_
      obtain ⟨p64, xs65, hv, hs66, hr67⟩ := Rep.st w r10
      cases hv
      obtain ⟨u68, hu, r69⟩ := RepL.at hr67 (i := 1) rfl
      refine h_ixT hs66 hu ?_
      cases r69
      refine h_nil ?_
      refine h_newL w (ds := (([a_row.a.a, a_row.a.b, 1, x40.a, x49.b, a_row.c.a, a_row.c.b] : List Int)).map enc) (K := K) (.cons (Rep.int _) (.cons (Rep.int _) (.cons (Rep.int _) (.cons (Rep.int _) (.cons (Rep.int _) (.cons (Rep.int _) (.cons (Rep.int _) .nil))))))) (fun p70 B71 H72 s73 r74 => ?_) (by show 7 ≤ sizeLine; decide)
      replace r6 := r6.mono s73.ex
      replace r8 := r8.mono s73.ex
      replace r10 := r10.mono s73.ex
      replace st := st.go s73 go0
      replace w := s73.ok
      replace r74 : Rep K B71 (.ref p70) (enc ([a_row.a.a, a_row.a.b, 1, x40.a, x49.b, a_row.c.a, a_row.c.b] : List Int)) := r74
      exact P.ok _ _ _ st r74
theorem ok__law_head_numbers {f : Addr} {fd : FuncData}  (F : Fun K "_law_head_numbers" "_law_head_numbers" s__law_head_numbers f fd) {f__law_edit_numbers : Addr} {d__law_edit_numbers : FuncData} (g__law_edit_numbers : mg "_law_edit_numbers" = some (.ref f__law_edit_numbers)) (k__law_edit_numbers : PySem.W.keepIn K (.ref f__law_edit_numbers) = true) (b__law_edit_numbers : L2.Binds K d__law_edit_numbers ["_law_row"] []) (G__law_edit_numbers : FnOk Pr wo K mg base CX0 1 f__law_edit_numbers d__law_edit_numbers ["_law_row"] (sp__law_edit_numbers K)) (bI_len : mg "len" = none) : FnOk Pr wo K mg base CX0 2 f fd ["_law_head_here"] (sp__law_head_numbers K) := by
  refine F.ok sc__law_head_numbers (fun vs H Q E h => ?_) (fun cdv A outer s H0 vs Q E hr h => ?_)
  · obtain ⟨_, _, _, _, rfl, _⟩ := h; rfl
  · obtain ⟨B0, v_head_here, a_head_here, w, rfl, r_head_here, P⟩ := h
    have w0 := w
    have hu := hu_of hr
    have hu64 := hu64_of hr
    have hu65 := hu65_of hr
    have hr1 : Room 1 _ := hr.mono (by decide)
    refine ⟨_, (pss_cons (ps_asg (pv 0) (pg_tupK (K := K) (n := 3) rfl rfl (pgs_cons (pg_name (i := 1) sc__law_head_numbers.nd rfl (by first | exact Or.inl rfl | exact Or.inr rfl)) (pgs_cons (pg_name (i := 2) sc__law_head_numbers.nd rfl (by first | exact Or.inl rfl | exact Or.inr rfl)) (pgs_cons (pg_name (i := 3) sc__law_head_numbers.nd rfl (by first | exact Or.inl rfl | exact Or.inr rfl)) pgs_nil)))))
      (pss_cons (ps_set (i := 4) sc__law_head_numbers.nd rfl (by first | exact Or.inl rfl | exact Or.inr rfl) (pe_lst (pa_cons (pv 1) (pa_cons (pv 2) (pa_cons (pe_callB (r := rLenY K) cr_len (by rfl) bI_len PySem.boot_len (pa_cons (pv 3) pa_nil)) pa_nil)))))
      (pss_cons (ps_for PassesOwn.never rfl (pi_list (pv 3)) (pg_tupK (K := K) (n := 3) rfl rfl (pgs_cons (pg_name (i := 5) sc__law_head_numbers.nd rfl (by first | exact Or.inl rfl | exact Or.inr rfl)) (pgs_cons (pg_name (i := 6) sc__law_head_numbers.nd rfl (by first | exact Or.inl rfl | exact Or.inr rfl)) (pgs_cons (pg_name (i := 7) sc__law_head_numbers.nd rfl (by first | exact Or.inl rfl | exact Or.inr rfl)) pgs_nil)))) (pss_cons (ps_set (i := 4) sc__law_head_numbers.nd rfl (by first | exact Or.inl rfl | exact Or.inr rfl) (pe_op (r := rCatQ K) op_catQ (pv 4) (pe_lst (pa_cons (pv 5) (pa_cons (pv 6) (pa_cons (pe_callB (r := rLenY K) cr_len (by rfl) bI_len PySem.boot_len (pa_cons (pv 7) pa_nil)) pa_nil))))))
      (pss_one (ps_for PassesOwn.never rfl (pi_list (pv 7)) (pg_name (i := 8) sc__law_head_numbers.nd rfl (by first | exact Or.inl rfl | exact Or.inr rfl)) (pss_one (ps_set (i := 4) sc__law_head_numbers.nd rfl (by first | exact Or.inl rfl | exact Or.inr rfl) (pe_op (r := rCatQ K) op_catQ (pv 4) (pe_call G__law_edit_numbers hr1 rfl g__law_edit_numbers k__law_edit_numbers b__law_edit_numbers .nil pass0 (pa_cons (pv 8) pa_nil)))))))))
      (pss_one (ps_ret (pv 4)))))), ?_⟩
    unfold l_head_numbers at P
    have st := Stp.refl (W := []) w
    refine h_seq ?_
    refine h_asg ?_
    refine h_var rfl ?_
    obtain ⟨p1, xs2, rfl, hs3, hr4⟩ := Rep.st w (r_head_here.mono st.ex)
    obtain ⟨u5, u7, u9, rfl, r6, r8, r10⟩ := RepL.open3 hr4
    refine h_tupG hs3 rfl ?_
    refine h_gcons ?_
    refine h_gname ?_
    cases r6
    refine h_gcons ?_
    refine h_gname ?_
    cases r8
    refine h_gcons ?_
    refine h_gname ?_
    refine h_gnil ?_
    refine h_nx ?_
    refine h_set ?_
    refine h_lst ?_
    refine h_cons ?_
    refine h_var rfl ?_
    refine h_cons ?_
    refine h_var rfl ?_
    refine h_cons ?_
    refine h_cb ?_
    refine h_cons ?_
    refine h_var rfl ?_
    refine h_nil ?_
    obtain ⟨p11, xs12, rfl, hs13, hr14⟩ := Rep.sq w r10
    refine h_len hs13 hr14 ?_
    refine h_nil ?_
    refine h_newL w (ds := (([a_head_here.a, a_head_here.b, (a_head_here.c.length : Int)] : List Int)).map enc) (K := K) (.cons (Rep.int _) (.cons (Rep.int _) (.cons (Rep.int _) .nil))) (fun p15 B16 H17 s18 r19 => ?_) (by show 3 ≤ sizeLine; decide)
    replace r10 := r10.mono s18.ex
    replace st := st.go s18 go0
    replace w := s18.ok
    replace r19 : Rep K B16 (.ref p15) (enc ([a_head_here.a, a_head_here.b, (a_head_here.c.length : Int)] : List Int)) := r19
    refine h_seq ?_
    refine h_forE ?_
    refine h_var rfl ?_
    obtain ⟨p20, xs21, hv, hb22, hr23⟩ := Rep.sqB r10
    cases hv
    have wj25 := w
    have sj24 := Stp.refl (W := []) w
    refine h_forL P (w.l hb22) hr23 (fun (a : (List Int)) σ' H' => ∃ (B' : Hp) (v0 : V) (o__law_row : Option V) (o__law_units : Option V) (o__law_count : Option V) (o__law_rows : Option V), Stp [] B16 H17 B' H' ∧ σ' = [some ((.ref p1)), some (.int a_head_here.a), some (.int a_head_here.b), some ((.ref p11)), some v0, o__law_units, o__law_count, o__law_rows, o__law_row] ∧ Rep K B' v0 (enc a)) ⟨_, (.ref p15), _, _, _, _, sj24, rfl, r19⟩ (fun _ _ _ j => ?_) ?_ ?_
    · obtain ⟨B35, v38, o40, o41, o42, o43, s37, rfl, r39⟩ := j
      exact s37.ok.l (s37.ex.l hb22)
    · rintro N26 T27 x32 v33 a31 _ H36 ⟨B35, v38, o40, o41, o42, o43, s37, rfl, r39⟩ r34 kk28 kr29 kb30 P
      replace r10 := r10.mono s37.ex
      replace st := st.go s37 go0
      replace w := s37.ok
      have sj24 := s37
      replace r34 := r34.mono sj24.ex
      obtain ⟨p44, xs45, rfl, hs46, hr47⟩ := Rep.st w r34
      obtain ⟨u48, u50, u52, rfl, r49, r51, r53⟩ := RepL.open3 hr47
      refine h_tupG hs46 rfl ?_
      refine h_gcons ?_
      refine h_gname ?_
      cases r49
      refine h_gcons ?_
      refine h_gname ?_
      cases r51
      refine h_gcons ?_
      refine h_gname ?_
      refine h_gnil ?_
      refine h_set ?_
      refine h_op ?_
      refine h_var rfl ?_
      refine h_lst ?_
      refine h_cons ?_
      refine h_var rfl ?_
      refine h_cons ?_
      refine h_var rfl ?_
      refine h_cons ?_
      refine h_cb ?_
      refine h_cons ?_
      refine h_var rfl ?_
      refine h_nil ?_
      obtain ⟨p54, xs55, rfl, hs56, hr57⟩ := Rep.sq w r53
      refine h_len hs56 hr57 ?_
      refine h_nil ?_
      refine h_newL w (ds := (([x32.a, x32.b, (x32.c.length : Int)] : List Int)).map enc) (K := K) (.cons (Rep.int _) (.cons (Rep.int _) (.cons (Rep.int _) .nil))) (fun p58 B59 H60 s61 r62 => ?_) (by show 3 ≤ sizeLine; decide)
      replace r10 := r10.mono s61.ex
      replace r39 := r39.mono s61.ex
      replace r53 := r53.mono s61.ex
      replace st := st.go s61 go0
      replace sj24 := sj24.go s61 go0
      replace w := s61.ok
      replace r62 : Rep K B59 (.ref p58) (enc ([x32.a, x32.b, (x32.c.length : Int)] : List Int)) := r62
      obtain ⟨p63, xs64, rfl, hs65, hr66⟩ := Rep.sq w r39
      obtain ⟨p67, xs68, hv, hs69, hr70⟩ := Rep.sq w r62
      cases hv
      obtain ⟨gd, P⟩ := P.guard
      refine h_cat hs65 hs69 (by have g := gd; simp only [hr66.length, hr70.length, List.length_map] at g ⊢; exact Nat.le_trans g (by decide)) ?_
      refine h_nwL w (ds := ((a31 ++ ([x32.a, x32.b, (x32.c.length : Int)] : List Int))).map enc) (K := K) (RepL.cat hr66 hr70) (fun p71 B72 H73 s74 r75 => ?_) 
      replace r10 := r10.mono s74.ex
      replace r39 := r39.mono s74.ex
      replace r53 := r53.mono s74.ex
      replace st := st.go s74 go0
      replace sj24 := sj24.go s74 go0
      replace w := s74.ok
      replace r75 : Rep K B72 (.ref p71) (enc (a31 ++ ([x32.a, x32.b, (x32.c.length : Int)] : List Int))) := r75
      refine h_forE ?_
      refine h_var rfl ?_
      obtain ⟨p76, xs77, hv, hb78, hr79⟩ := Rep.sqB r53
      cases hv
      have wj81 := w
      have sj80 := Stp.refl (W := []) w
      refine h_forL P (w.l hb78) hr79 (fun (a : (List Int)) σ' H' => ∃ (B' : Hp) (v0 : V) (o__law_row : Option V), Stp [] B72 H73 B' H' ∧ σ' = [some ((.ref p1)), some (.int a_head_here.a), some (.int a_head_here.b), some ((.ref p11)), some v0, some (.int x32.a), some (.int x32.b), some ((.ref p54)), o__law_row] ∧ Rep K B' v0 (enc a)) ⟨_, (.ref p71), _, sj80, rfl, r75⟩ (fun _ _ _ j => ?_) ?_ ?_
      · obtain ⟨B91, v94, o96, s93, rfl, r95⟩ := j
        exact s93.ok.l (s93.ex.l hb78)
      · rintro N82 T83 x88 v89 a87 _ H92 ⟨B91, v94, o96, s93, rfl, r95⟩ r90 kk84 kr85 kb86 P
        replace r10 := r10.mono s93.ex
        replace r53 := r53.mono s93.ex
        replace st := st.go s93 go0
        replace sj24 := sj24.go s93 go0
        replace w := s93.ok
        have sj80 := s93
        replace r90 := r90.mono sj80.ex
        refine h_gname ?_
        refine h_set1 ?_
        refine h_op ?_
        refine h_var rfl ?_
        refine h_call ?_
        refine h_cons ?_
        refine h_var rfl ?_
        refine h_nil ?_
        refine ⟨B91, v89, x88, w, rfl, r90, (P.bind).mono (fun x97 P => ?_) (fun _ z => z)⟩
        refine fun v101 B98 H99 s100 r102 => ?_
        replace r10 := r10.mono s100.ex
        replace r53 := r53.mono s100.ex
        replace r95 := r95.mono s100.ex
        replace r90 := r90.mono s100.ex
        replace st := st.go s100 go0
        replace sj24 := sj24.go s100 go0
        replace sj80 := sj80.go s100 go0
        replace w := s100.ok
        obtain ⟨p103, xs104, rfl, hs105, hr106⟩ := Rep.sq w r95
        obtain ⟨p107, xs108, rfl, hs109, hr110⟩ := Rep.sq w r102
        obtain ⟨gd, P⟩ := P.guard
        refine h_cat hs105 hs109 (by have g := gd; simp only [hr106.length, hr110.length, List.length_map] at g ⊢; exact Nat.le_trans g (by decide)) ?_
        refine h_nwL w (ds := ((a87 ++ x97)).map enc) (K := K) (RepL.cat hr106 hr110) (fun p111 B112 H113 s114 r115 => ?_) 
        replace r10 := r10.mono s114.ex
        replace r53 := r53.mono s114.ex
        replace r95 := r95.mono s114.ex
        replace r90 := r90.mono s114.ex
        replace st := st.go s114 go0
        replace sj24 := sj24.go s114 go0
        replace sj80 := sj80.go s114 go0
        replace w := s114.ok
        replace r115 : Rep K B112 (.ref p111) (enc (a87 ++ x97)) := r115
        refine h_nx ?_
        exact kk84 (a87 ++ x97) _ _ ⟨_, (.ref p111), _, sj80, rfl, r115⟩ P.ok
      · rintro a116 _ H118 ⟨B117, v120, o122, s119, rfl, r121⟩ P
        replace r10 := r10.mono s119.ex
        replace r53 := r53.mono s119.ex
        replace st := st.go s119 go0
        replace sj24 := sj24.go s119 go0
        replace w := s119.ok
        refine h_nx ?_
        exact kk28 a116 _ _ ⟨_, v120, _, _, _, _, sj24, rfl, r121⟩ P.ok
    · rintro a123 _ H125 ⟨B124, v127, o129, o130, o131, o132, s126, rfl, r128⟩ P
      replace r10 := r10.mono s126.ex
      replace st := st.go s126 go0
      replace w := s126.ok
      refine h_nx ?_
      refine h_ret ?_
      refine h_var rfl ?_
      exact P.ok _ _ _ st r128
theorem ok__law_all_figures {f : Addr} {fd : FuncData}  (F : Fun K "_law_all_figures" "_law_all_figures" s__law_all_figures f fd) {f__law_figures : Addr} {d__law_figures : FuncData} (g__law_figures : mg "_law_figures" = some (.ref f__law_figures)) (k__law_figures : PySem.W.keepIn K (.ref f__law_figures) = true) (b__law_figures : L2.Binds K d__law_figures ["_law_number"] []) (G__law_figures : FnOk Pr wo K mg base CX0 1 f__law_figures d__law_figures ["_law_number"] (sp__law_figures K)) : FnOk Pr wo K mg base CX0 2 f fd ["_law_numbers"] (sp__law_all_figures K) := by
  refine F.ok sc__law_all_figures (fun vs H Q E h => ?_) (fun cdv A outer s H0 vs Q E hr h => ?_)
  · obtain ⟨_, _, _, _, rfl, _⟩ := h; rfl
  · obtain ⟨B0, v_numbers, a_numbers, w, rfl, r_numbers, P⟩ := h
    have w0 := w
    have hu := hu_of hr
    have hu64 := hu64_of hr
    have hu65 := hu65_of hr
    have hr1 : Room 1 _ := hr.mono (by decide)
    refine ⟨_, (pss_cons (ps_set (i := 1) sc__law_all_figures.nd rfl (by first | exact Or.inl rfl | exact Or.inr rfl) (pe_lst pa_nil))
      (pss_cons (ps_for PassesOwn.never rfl (pi_list (pv 0)) (pg_name (i := 2) sc__law_all_figures.nd rfl (by first | exact Or.inl rfl | exact Or.inr rfl)) (pss_one (ps_expr (pe_bm PySem.F.plainAttrs_list PySem.F.slot_list_extend PySem.F.type_list_extend mt_extend (pv 1) (pa_cons (pe_call G__law_figures hr1 rfl g__law_figures k__law_figures b__law_figures .nil pass0 (pa_cons (pv 2) pa_nil)) pa_nil)))))
      (pss_one (ps_ret (pv 1))))), ?_⟩
    unfold l_all_figures at P
    have st := Stp.refl (W := []) w
    refine h_set ?_
    refine h_lst ?_
    refine h_nil ?_
    refine h_newM w (ds := (([] : List Int)).map enc) (K := K) .nil (fun p1 H2 hn5 s3 m4 => ?_) (by show 0 ≤ sizeLine; decide)
    have n6 := st.nn hn5
    replace st := st.go s3 go0
    replace w := s3.ok
    refine h_seq ?_
    refine h_forE ?_
    refine h_var rfl ?_
    obtain ⟨p7, xs8, rfl, hb9, hr10⟩ := Rep.sqB (r_numbers.mono st.ex)
    have wj12 := w
    have sj11 := Stp.refl (W := [p1]) w
    refine h_forL P (w.l hb9) hr10 (fun (a : (List Int)) σ' H' => ∃ (B' : Hp) (o__law_number : Option V), Stp [p1] B0 H2 B' H' ∧ σ' = [some ((.ref p7)), some ((.ref p1)), o__law_number] ∧ Mu K B' H' p1 (a.map enc)) ⟨_, _, sj11, rfl, m4⟩ (fun _ _ _ j => ?_) ?_ ?_
    · obtain ⟨B22, o25, s24, rfl, m4⟩ := j
      exact s24.ok.l (s24.ex.l hb9)
    · rintro N13 T14 x19 v20 a18 _ H23 ⟨B22, o25, s24, rfl, m4⟩ r21 kk15 kr16 kb17 P
      replace st := st.go s24 (go1 (.inr n6))
      replace w := s24.ok
      have sj11 := s24
      replace r21 := r21.mono sj11.ex
      cases r21
      refine h_gname ?_
      refine h_drop ?_
      refine h_bm ?_
      refine h_var rfl ?_
      refine h_bmL m4 ?_
      refine h_cons ?_
      refine h_call ?_
      refine h_cons ?_
      refine h_var rfl ?_
      refine h_nil ?_
      refine ⟨B22, x19, w, rfl, (P.bind).mono (fun x26 P => ?_) (fun _ z => z)⟩
      refine fun p32 B27 H28 s29 hn33 m34 => ?_
      have n36 := st.nn hn33
      have n37 := sj11.nn hn33
      have ne38 := Mu.ne m4 hn33
      replace m4 := m4.step s29 nm0
      replace st := st.go s29 go0
      replace sj11 := sj11.go s29 go0
      replace w := s29.ok
      refine h_nil ?_
      obtain ⟨gd, P⟩ := P.guard
      refine h_extend w m4 m34 gd (fun H39 s40 m4 => ?_)
      replace st := st.go s40 (go1 (.inr n6))
      replace sj11 := sj11.go s40 (go1 (.inl (by simp)))
      replace w := s40.ok
      refine h_nx ?_
      exact kk15 (a18 ++ x26) _ _ ⟨_, _, sj11, rfl, m4⟩ P.ok
    · rintro a41 _ H43 ⟨B42, o45, s44, rfl, m4⟩ P
      replace st := st.go s44 (go1 (.inr n6))
      replace w := s44.ok
      refine h_nx ?_
      refine h_ret ?_
      refine h_var rfl ?_
      obtain ⟨B50, e46, k47, g48, r49⟩ := Mu.keep m4
      replace st := g48 _ _ _ st w0 n6
      replace w := st.ok
      replace r49 : Rep K B50 (.ref p1) (enc a41) := r49
      exact P.ok _ _ _ st r49
theorem ok__law_refused__read_head {f : Addr} {fd : FuncData}  (F : Fun K "_law_refused" "_law_refused" s__law_refused__read_head f fd) {C_NoBody : Addr} (T_NoBody : ExcR K mg "NoBody" C_NoBody) {C_ScrollError : Addr} (T_ScrollError : ExcR K mg "ScrollError" C_ScrollError) {C_NoBytes : Addr} (T_NoBytes : ExcR K mg "NoBytes" C_NoBytes) {C_NoLeaf : Addr} (T_NoLeaf : ExcR K mg "NoLeaf" C_NoLeaf) {C_NoNumber : Addr} (T_NoNumber : ExcR K mg "NoNumber" C_NoNumber) (p_NoBody_NoBody : PySem.W.subIn K (.ref C_NoBody) (.ref C_NoBody) = some true) (p_NoBody_NoBytes : PySem.W.subIn K (.ref C_NoBody) (.ref C_NoBytes) = some false) (p_NoBody_NoLeaf : PySem.W.subIn K (.ref C_NoBody) (.ref C_NoLeaf) = some false) (p_NoBody_NoNumber : PySem.W.subIn K (.ref C_NoBody) (.ref C_NoNumber) = some false) {f_read_head : Addr} {d_read_head : FuncData} (g_read_head : mg "read_head" = some (.ref f_read_head)) (k_read_head : PySem.W.keepIn K (.ref f_read_head) = true) (b_read_head : L2.Binds K d_read_head ["body"] []) (G_read_head : FnOk Pr wo K mg base (L2.CX Pr wo) 11 f_read_head d_read_head ["body"] (sp_read_head K mg)) (bI_isinstance : mg "isinstance" = none) : FnOk Pr wo K mg base CX0 12 f fd ["_law_ask", "_law_thing"] (sp__law_refused__read_head K f_read_head) := by
  refine F.ok sc__law_refused__read_head (fun vs H Q E h => ?_) (fun cdv A outer s H0 vs Q E hr h => ?_)
  · obtain ⟨_, _, _, _, rfl, _⟩ := h; rfl
  · obtain ⟨B0, v_thing, a_thing, w, rfl, r_thing, P⟩ := h
    have w0 := w
    have hu := hu_of hr
    have hu64 := hu64_of hr
    have hu65 := hu65_of hr
    have hr11 : Room 11 _ := hr.mono (by decide)
    refine ⟨_, (pss_cons (ps_tryM (K := K) (Wout := fun _ _ _ _ => False) rfl rfl takes0 (fun W pn xe tk _ => (pss_one (ps_expr (pe_callLS 0 G_read_head hr11 k_read_head b_read_head .nil (fun σ => passAt tk σ) (pa_cons (pv 1) pa_nil))))) (.named (i := 2) sc__law_refused__read_head.nd rfl rfl (T_NoBody.names rfl (by decide)) (fun a oe cls d pn hz hf => (pss_one (ps_ret (pe_not (pe_isET (K := K) (a := a) (cls := cls) (d := d) rfl (fun Dc e1 e2 ec => by subst e1 e2; exact (pe_callB (r := rIsET K Dc a) (call_isET ec hz hf) (by rfl) bI_isinstance PyProof.Rows.boot_isinstance (pa_cons (pv 2) (pa_cons (pe_tup (pa_cons (pe_glob (v := .ref C_NoBytes) (by rfl) T_NoBytes.g rfl) (pa_cons (pe_glob (v := .ref C_NoLeaf) (by rfl) T_NoLeaf.g rfl) (pa_cons (pe_glob (v := .ref C_NoNumber) (by rfl) T_NoNumber.g rfl) pa_nil)))) pa_nil))))))))) (.plain (T_ScrollError.names rfl (by decide)) (fun a oe cls d pn hz hf => (pss_one (ps_ret pe_bl))) .nil)))
      (pss_one (ps_ret pe_bl))), ?_⟩
    unfold l_refused__read_head at P
    have st := Stp.refl (W := []) w
    refine h_seq ?_
    have wj2 := w
    have sj1 := Stp.refl (W := []) w
    refine h_tryJ P (fun (a : Unit) σ' H' => ∃ (B' : Hp) (o_e : Option V), Stp [] B0 H0 B' H' ∧ σ' = [some ((.ref f_read_head)), some (v_thing), o_e]) (fun N3 T4 kk5 kr6 P => ?_) ?_
    · refine h_tryM ?_
      refine h_drop ?_
      refine h_callLS rfl ?_
      refine h_cons ?_
      refine h_var rfl ?_
      refine h_nil ?_
      refine ⟨B0, v_thing, a_thing, w, rfl, (r_thing.mono st.ex), Post.mono2 P.bind (fun e13 P => ?_) (fun x7 P => ?_)⟩
      · skip
        rintro C17 B14 H15 g s16
        replace st := st.go s16 go0
        replace sj1 := sj1.go s16 go0
        replace w := s16.ok
        obtain ⟨ec, ea⟩ := e13
        have he := P.guard.1
        replace P := P.guard.2
        obtain rfl : ec = "NoBody" := List.mem_singleton.mp he
        obtain rfl : C_NoBody = C17 := Value.ref.inj (Option.some.inj (T_NoBody.g.symm.trans g))
        refine h_mixHitA T_NoBody.toExcT p_NoBody_NoBody (fun ax18 haax18 => ?_)
        refine h_ret ?_
        refine h_not ?_
        refine h_isET T_NoBody.toExcT (h_cons (h_var rfl (h_cons (h_tup ?_))))
        refine h_cons (h_c ?_)
        refine h_cons (h_c ?_)
        refine h_cons (h_c ?_)
        refine h_nil (h_clsTup w (by show 3 ≤ sizeLine; decide) fun p21 s20 => h_nil ?_)
        refine h_isETR (.cons (.own _) (.cons (.own _) (.cons (.own _) .nil))) (kitA_f (T_NoBytes.kit p_NoBody_NoBytes) (kitA_f (T_NoLeaf.kit p_NoBody_NoLeaf) (kitA_f (T_NoNumber.kit p_NoBody_NoNumber) kitA_nil))) ?_
        replace st := st.go s20 go0
        replace sj1 := sj1.go s20 go0
        replace w := s20.ok
        refine h_bl ?_
        exact (kr6 _ P.ok) _ _ _ st (Rep.bl _)
      have nf22 := fun (p : Addr) (h : H0 p = none) => st.nn h
      refine fun v11 B8 H9 s10 rn23 => ?_
      have r12 := rn23.rep
      replace rn23 := rn23.ago nf22
      replace st := st.go s10 go0
      replace sj1 := sj1.go s10 go0
      replace w := s10.ok
      refine h_nx ?_
      exact kk5 () _ _ ⟨_, _, sj1, rfl⟩ P.ok
    · rintro a24 _ H26 ⟨B25, o28, s27, rfl⟩ P
      replace st := st.go s27 go0
      replace w := s27.ok
      refine h_nx ?_
      refine h_ret ?_
      refine h_c ?_
      exact P.ok _ _ _ st (Rep.bl _)
theorem ok__law_refused__head_body {f : Addr} {fd : FuncData}  (F : Fun K "_law_refused" "_law_refused" s__law_refused__head_body f fd) {C_NoBody : Addr} (T_NoBody : ExcR K mg "NoBody" C_NoBody) {C_ScrollError : Addr} (T_ScrollError : ExcR K mg "ScrollError" C_ScrollError) {C_NoBytes : Addr} (T_NoBytes : ExcR K mg "NoBytes" C_NoBytes) {C_NoLeaf : Addr} (T_NoLeaf : ExcR K mg "NoLeaf" C_NoLeaf) {C_NoNumber : Addr} (T_NoNumber : ExcR K mg "NoNumber" C_NoNumber) (p_NoBody_NoBody : PySem.W.subIn K (.ref C_NoBody) (.ref C_NoBody) = some true) (p_NoBody_NoBytes : PySem.W.subIn K (.ref C_NoBody) (.ref C_NoBytes) = some false) (p_NoBody_NoLeaf : PySem.W.subIn K (.ref C_NoBody) (.ref C_NoLeaf) = some false) (p_NoBody_NoNumber : PySem.W.subIn K (.ref C_NoBody) (.ref C_NoNumber) = some false) {f_head_body : Addr} {d_head_body : FuncData} (g_head_body : mg "head_body" = some (.ref f_head_body)) (k_head_body : PySem.W.keepIn K (.ref f_head_body) = true) (b_head_body : L2.Binds K d_head_body ["head"] []) (G_head_body : FnOk Pr wo K mg base (L2.CX Pr wo) 9 f_head_body d_head_body ["head"] (sp_head_body K mg)) (bI_isinstance : mg "isinstance" = none) : FnOk Pr wo K mg base CX0 10 f fd ["_law_ask", "_law_thing"] (sp__law_refused__head_body K f_head_body) := by
  refine F.ok sc__law_refused__head_body (fun vs H Q E h => ?_) (fun cdv A outer s H0 vs Q E hr h => ?_)
  · obtain ⟨_, _, _, _, rfl, _⟩ := h; rfl
  · obtain ⟨B0, v_thing, a_thing, w, rfl, r_thing, P⟩ := h
    have w0 := w
    have hu := hu_of hr
    have hu64 := hu64_of hr
    have hu65 := hu65_of hr
    have hr9 : Room 9 _ := hr.mono (by decide)
    refine ⟨_, (pss_cons (ps_tryM (K := K) (Wout := fun _ _ _ _ => False) rfl rfl takes0 (fun W pn xe tk _ => (pss_one (ps_expr (pe_callLS 0 G_head_body hr9 k_head_body b_head_body .nil (fun σ => passAt tk σ) (pa_cons (pv 1) pa_nil))))) (.named (i := 2) sc__law_refused__head_body.nd rfl rfl (T_NoBody.names rfl (by decide)) (fun a oe cls d pn hz hf => (pss_one (ps_ret (pe_not (pe_isET (K := K) (a := a) (cls := cls) (d := d) rfl (fun Dc e1 e2 ec => by subst e1 e2; exact (pe_callB (r := rIsET K Dc a) (call_isET ec hz hf) (by rfl) bI_isinstance PyProof.Rows.boot_isinstance (pa_cons (pv 2) (pa_cons (pe_tup (pa_cons (pe_glob (v := .ref C_NoBytes) (by rfl) T_NoBytes.g rfl) (pa_cons (pe_glob (v := .ref C_NoLeaf) (by rfl) T_NoLeaf.g rfl) (pa_cons (pe_glob (v := .ref C_NoNumber) (by rfl) T_NoNumber.g rfl) pa_nil)))) pa_nil))))))))) (.plain (T_ScrollError.names rfl (by decide)) (fun a oe cls d pn hz hf => (pss_one (ps_ret pe_bl))) .nil)))
      (pss_one (ps_ret pe_bl))), ?_⟩
    unfold l_refused__head_body at P
    have st := Stp.refl (W := []) w
    refine h_seq ?_
    have wj2 := w
    have sj1 := Stp.refl (W := []) w
    refine h_tryJ P (fun (a : Unit) σ' H' => ∃ (B' : Hp) (o_e : Option V), Stp [] B0 H0 B' H' ∧ σ' = [some ((.ref f_head_body)), some (v_thing), o_e]) (fun N3 T4 kk5 kr6 P => ?_) ?_
    · refine h_tryM ?_
      refine h_drop ?_
      refine h_callLS rfl ?_
      refine h_cons ?_
      refine h_var rfl ?_
      refine h_nil ?_
      refine ⟨B0, v_thing, a_thing, w, rfl, (r_thing.mono st.ex), Post.mono2 P.bind (fun e13 P => ?_) (fun x7 P => ?_)⟩
      · skip
        rintro C17 B14 H15 g s16
        replace st := st.go s16 go0
        replace sj1 := sj1.go s16 go0
        replace w := s16.ok
        obtain ⟨ec, ea⟩ := e13
        have he := P.guard.1
        replace P := P.guard.2
        obtain rfl : ec = "NoBody" := List.mem_singleton.mp he
        obtain rfl : C_NoBody = C17 := Value.ref.inj (Option.some.inj (T_NoBody.g.symm.trans g))
        refine h_mixHitA T_NoBody.toExcT p_NoBody_NoBody (fun ax18 haax18 => ?_)
        refine h_ret ?_
        refine h_not ?_
        refine h_isET T_NoBody.toExcT (h_cons (h_var rfl (h_cons (h_tup ?_))))
        refine h_cons (h_c ?_)
        refine h_cons (h_c ?_)
        refine h_cons (h_c ?_)
        refine h_nil (h_clsTup w (by show 3 ≤ sizeLine; decide) fun p21 s20 => h_nil ?_)
        refine h_isETR (.cons (.own _) (.cons (.own _) (.cons (.own _) .nil))) (kitA_f (T_NoBytes.kit p_NoBody_NoBytes) (kitA_f (T_NoLeaf.kit p_NoBody_NoLeaf) (kitA_f (T_NoNumber.kit p_NoBody_NoNumber) kitA_nil))) ?_
        replace st := st.go s20 go0
        replace sj1 := sj1.go s20 go0
        replace w := s20.ok
        refine h_bl ?_
        exact (kr6 _ P.ok) _ _ _ st (Rep.bl _)
      refine fun p22 B8 H9 s10 hn23 m24 => ?_
      have n26 := st.nn hn23
      have n27 := sj1.nn hn23
      replace st := st.go s10 go0
      replace sj1 := sj1.go s10 go0
      replace w := s10.ok
      obtain ⟨B32, e28, k29, g30, r31⟩ := Mu.keep m24
      replace st := g30 _ _ _ st w0 n26
      replace sj1 := g30 _ _ _ sj1 wj2 n27
      replace w := st.ok
      replace r31 : Rep K B32 (.ref p22) (enc x7) := r31
      refine h_nx ?_
      exact kk5 () _ _ ⟨_, _, sj1, rfl⟩ P.ok
    · rintro a33 _ H35 ⟨B34, o37, s36, rfl⟩ P
      replace st := st.go s36 go0
      replace w := s36.ok
      refine h_nx ?_
      refine h_ret ?_
      refine h_c ?_
      exact P.ok _ _ _ st (Rep.bl _)
theorem ok__law_moment {f : Addr} {fd : FuncData}  (F : Fun K "_law_moment" "_law_moment" s__law_moment f fd) {f__law_lowest : Addr} {d__law_lowest : FuncData} (g__law_lowest : mg "_law_lowest" = some (.ref f__law_lowest)) (k__law_lowest : PySem.W.keepIn K (.ref f__law_lowest) = true) (b__law_lowest : L2.Binds K d__law_lowest ["_law_top", "_law_bottom"] []) (G__law_lowest : FnOk Pr wo K mg base CX0 2 f__law_lowest d__law_lowest ["_law_top", "_law_bottom"] (sp__law_lowest K)) {f__law_digit : Addr} {d__law_digit : FuncData} (g__law_digit : mg "_law_digit" = some (.ref f__law_digit)) (k__law_digit : PySem.W.keepIn K (.ref f__law_digit) = true) (b__law_digit : L2.Binds K d__law_digit ["_law_state", "_law_base"] []) (G__law_digit : FnOk Pr wo K mg base CX0 1 f__law_digit d__law_digit ["_law_state", "_law_base"] (sp__law_digit K)) : FnOk Pr wo K mg base CX0 3 f fd ["_law_state", "_law_most"] (sp__law_moment K) := by
  refine F.ok sc__law_moment (fun vs H Q E h => ?_) (fun cdv A outer s H0 vs Q E hr h => ?_)
  · obtain ⟨_, _, _, _, _, rfl, _⟩ := h; rfl
  · obtain ⟨B0, p_state, a_state, a_most, w, rfl, m_state, P⟩ := h
    have w0 := w
    have hu := hu_of hr
    have hu64 := hu64_of hr
    have hu65 := hu65_of hr
    have hr1 : Room 1 _ := hr.mono (by decide)
    have hr2 : Room 2 _ := hr.mono (by decide)
    refine ⟨_, (pss_one (ps_ret (pe_call G__law_lowest hr2 rfl g__law_lowest k__law_lowest b__law_lowest .nil pass0 (pa_cons (pe_call G__law_digit hr1 rfl g__law_digit k__law_digit b__law_digit .nil pass0 (pa_cons (pv 0) (pa_cons (pv 1) pa_nil))) (pa_cons (pe_op op_add pe_int (pe_call G__law_digit hr1 rfl g__law_digit k__law_digit b__law_digit .nil pass0 (pa_cons (pv 0) (pa_cons (pe_ix (r := rIxL K) ix_list (pe_lst (pa_cons pe_int (pa_cons pe_int (pa_cons (pe_op op_pow pe_int pe_int) pa_nil)))) (pe_call G__law_digit hr1 rfl g__law_digit k__law_digit b__law_digit .nil pass0 (pa_cons (pv 0) (pa_cons pe_int pa_nil))) (fun _ _ => rfl)) pa_nil)))) pa_nil))))), ?_⟩
    unfold l_moment at P
    have st := Stp.refl (W := [p_state]) w
    refine h_ret ?_
    refine h_call ?_
    refine h_cons ?_
    refine h_call ?_
    refine h_cons ?_
    refine h_var rfl ?_
    refine h_cons ?_
    refine h_var rfl ?_
    refine h_nil ?_
    refine ⟨B0, p_state, a_state, a_most, w, rfl, m_state, (P.bind).mono (fun x1 P => ?_) (fun _ z => z)⟩
    refine fun v5 B2 H3 s4 m_state r6 => ?_
    replace st := st.go s4 (go1 (.inl (by simp)))
    replace w := s4.ok
    cases r6
    refine h_cons ?_
    refine h_op ?_
    refine h_c ?_
    refine h_call ?_
    refine h_cons ?_
    refine h_var rfl ?_
    refine h_cons ?_
    refine h_op ?_
    refine h_lst ?_
    refine h_cons ?_
    refine h_c ?_
    refine h_cons ?_
    refine h_c ?_
    refine h_cons ?_
    refine h_op (h_c (h_c (h_pow (k := 1000000000000000000000000000000) (by decide +kernel) (by decide +kernel) ?_)))
    refine h_nil ?_
    refine h_newL w (ds := (([1, 9, 1000000000000000000000000000000] : List Int)).map enc) (K := K) (.cons (Rep.int _) (.cons (Rep.int _) (.cons (Rep.int _) .nil))) (fun p7 B8 H9 s10 r11 => ?_) (by show 3 ≤ sizeLine; decide)
    replace m_state := m_state.step s10 nm0
    replace st := st.go s10 go0
    replace w := s10.ok
    replace r11 : Rep K B8 (.ref p7) (enc ([1, 9, 1000000000000000000000000000000] : List Int)) := r11
    refine h_call ?_
    refine h_cons ?_
    refine h_var rfl ?_
    refine h_cons ?_
    refine h_c ?_
    refine h_nil ?_
    refine ⟨B8, p_state, x1.2, 3, w, rfl, m_state, (P.bind).mono (fun x12 P => ?_) (fun _ z => z)⟩
    refine fun v16 B13 H14 s15 m_state r17 => ?_
    replace r11 := r11.mono s15.ex
    replace st := st.go s15 (go1 (.inl (by simp)))
    replace w := s15.ok
    cases r17
    obtain ⟨p18, xs19, hv, hs20, hr21⟩ := Rep.sq w r11
    cases hv
    obtain ⟨x22, hx23, P⟩ := P.ix
    obtain ⟨u24, hu, r25⟩ := RepL.atE hr21 hx23
    refine h_ixL hs20 hu ?_
    cases r25
    refine h_nil ?_
    refine ⟨B13, p_state, x12.2, x22, w, rfl, m_state, (P.bind).mono (fun x26 P => ?_) (fun _ z => z)⟩
    refine fun v30 B27 H28 s29 m_state r31 => ?_
    replace st := st.go s29 (go1 (.inl (by simp)))
    replace w := s29.ok
    cases r31
    refine h_I0 ?_
    refine h_nil ?_
    refine ⟨B27, x1.1, (1 + x26.1), w, rfl, (P.bind).mono (fun x32 P => ?_) (fun _ z => z)⟩
    refine fun v36 B33 H34 s35 r37 => ?_
    replace m_state := m_state.step s35 nm0
    replace st := st.go s35 go0
    replace w := s35.ok
    exact P.ok _ _ _ st m_state r37
theorem ok__law_edit {f : Addr} {fd : FuncData}  (F : Fun K "_law_edit" "_law_edit" s__law_edit f fd) {f__law_lowest : Addr} {d__law_lowest : FuncData} (g__law_lowest : mg "_law_lowest" = some (.ref f__law_lowest)) (k__law_lowest : PySem.W.keepIn K (.ref f__law_lowest) = true) (b__law_lowest : L2.Binds K d__law_lowest ["_law_top", "_law_bottom"] []) (G__law_lowest : FnOk Pr wo K mg base CX0 2 f__law_lowest d__law_lowest ["_law_top", "_law_bottom"] (sp__law_lowest K)) {f__law_digit : Addr} {d__law_digit : FuncData} (g__law_digit : mg "_law_digit" = some (.ref f__law_digit)) (k__law_digit : PySem.W.keepIn K (.ref f__law_digit) = true) (b__law_digit : L2.Binds K d__law_digit ["_law_state", "_law_base"] []) (G__law_digit : FnOk Pr wo K mg base CX0 1 f__law_digit d__law_digit ["_law_state", "_law_base"] (sp__law_digit K)) {f__law_moment : Addr} {d__law_moment : FuncData} (g__law_moment : mg "_law_moment" = some (.ref f__law_moment)) (k__law_moment : PySem.W.keepIn K (.ref f__law_moment) = true) (b__law_moment : L2.Binds K d__law_moment ["_law_state", "_law_most"] []) (G__law_moment : FnOk Pr wo K mg base CX0 3 f__law_moment d__law_moment ["_law_state", "_law_most"] (sp__law_moment K)) : FnOk Pr wo K mg base CX0 4 f fd ["_law_state"] (sp__law_edit K) := by
  refine F.ok sc__law_edit (fun vs H Q E h => ?_) (fun cdv A outer s H0 vs Q E hr h => ?_)
  · obtain ⟨_, _, _, _, rfl, _⟩ := h; rfl
  · obtain ⟨B0, p_state, a_state, w, rfl, m_state, P⟩ := h
    have w0 := w
    have hu := hu_of hr
    have hu64 := hu64_of hr
    have hu65 := hu65_of hr
    have hr1 : Room 1 _ := hr.mono (by decide)
    have hr2 : Room 2 _ := hr.mono (by decide)
    have hr3 : Room 3 _ := hr.mono (by decide)
    refine ⟨_, (pss_cons (ps_set (i := 1) sc__law_edit.nd rfl (by first | exact Or.inl rfl | exact Or.inr rfl) (pe_ix (r := rIxL K) ix_list (pe_lst (pa_cons pe_int (pa_cons pe_int (pa_cons (pe_op op_pow pe_int pe_int) pa_nil)))) (pe_call G__law_digit hr1 rfl g__law_digit k__law_digit b__law_digit .nil pass0 (pa_cons (pv 0) (pa_cons pe_int pa_nil))) (fun _ _ => rfl)))
      (pss_cons (ps_set (i := 2) sc__law_edit.nd rfl (by first | exact Or.inl rfl | exact Or.inr rfl) (pe_call G__law_lowest hr2 rfl g__law_lowest k__law_lowest b__law_lowest .nil pass0 (pa_cons (pe_op op_add pe_int (pe_call G__law_digit hr1 rfl g__law_digit k__law_digit b__law_digit .nil pass0 (pa_cons (pv 0) (pa_cons (pv 1) pa_nil)))) (pa_cons (pe_op op_add pe_int (pe_call G__law_digit hr1 rfl g__law_digit k__law_digit b__law_digit .nil pass0 (pa_cons (pv 0) (pa_cons pe_int pa_nil)))) pa_nil))))
      (pss_cons (ps_if (pt_cmpR op_eq (pe_call G__law_digit hr1 rfl g__law_digit k__law_digit b__law_digit .nil pass0 (pa_cons (pv 0) (pa_cons pe_int pa_nil))) pe_int (nomark _)) (pss_one (ps_ret (pe_tup (pa_cons (pv 2) (pa_cons pe_non (pa_cons (pe_tup (pa_cons pe_int (pa_cons pe_int pa_nil))) pa_nil)))))) pss_nil)
      (pss_one (ps_ret (pe_tup (pa_cons (pv 2) (pa_cons (pe_call G__law_moment hr3 rfl g__law_moment k__law_moment b__law_moment .nil pass0 (pa_cons (pv 0) (pa_cons (pv 1) pa_nil))) (pa_cons (pe_call G__law_moment hr3 rfl g__law_moment k__law_moment b__law_moment .nil pass0 (pa_cons (pv 0) (pa_cons pe_int pa_nil))) pa_nil))))))))), ?_⟩
    unfold l_edit at P
    have st := Stp.refl (W := [p_state]) w
    refine h_set ?_
    refine h_op ?_
    refine h_lst ?_
    refine h_cons ?_
    refine h_c ?_
    refine h_cons ?_
    refine h_c ?_
    refine h_cons ?_
    refine h_op (h_c (h_c (h_pow (k := 1000000000000000000000000000000) (by decide +kernel) (by decide +kernel) ?_)))
    refine h_nil ?_
    refine h_newL w (ds := (([9, 1000, 1000000000000000000000000000000] : List Int)).map enc) (K := K) (.cons (Rep.int _) (.cons (Rep.int _) (.cons (Rep.int _) .nil))) (fun p1 B2 H3 s4 r5 => ?_) (by show 3 ≤ sizeLine; decide)
    replace m_state := m_state.step s4 nm0
    replace st := st.go s4 go0
    replace w := s4.ok
    replace r5 : Rep K B2 (.ref p1) (enc ([9, 1000, 1000000000000000000000000000000] : List Int)) := r5
    refine h_call ?_
    refine h_cons ?_
    refine h_var rfl ?_
    refine h_cons ?_
    refine h_c ?_
    refine h_nil ?_
    refine ⟨B2, p_state, a_state, 3, w, rfl, m_state, (P.bind).mono (fun x6 P => ?_) (fun _ z => z)⟩
    refine fun v10 B7 H8 s9 m_state r11 => ?_
    replace r5 := r5.mono s9.ex
    replace st := st.go s9 (go1 (.inl (by simp)))
    replace w := s9.ok
    cases r11
    obtain ⟨p12, xs13, hv, hs14, hr15⟩ := Rep.sq w r5
    cases hv
    obtain ⟨x16, hx17, P⟩ := P.ix
    obtain ⟨u18, hu, r19⟩ := RepL.atE hr15 hx17
    refine h_ixL hs14 hu ?_
    cases r19
    refine h_set ?_
    refine h_call ?_
    refine h_cons ?_
    refine h_op ?_
    refine h_c ?_
    refine h_call ?_
    refine h_cons ?_
    refine h_var rfl ?_
    refine h_cons ?_
    refine h_var rfl ?_
    refine h_nil ?_
    refine ⟨B7, p_state, x6.2, x16, w, rfl, m_state, (P.bind).mono (fun x20 P => ?_) (fun _ z => z)⟩
    refine fun v24 B21 H22 s23 m_state r25 => ?_
    replace st := st.go s23 (go1 (.inl (by simp)))
    replace w := s23.ok
    cases r25
    refine h_I0 ?_
    refine h_cons ?_
    refine h_op ?_
    refine h_c ?_
    refine h_call ?_
    refine h_cons ?_
    refine h_var rfl ?_
    refine h_cons ?_
    refine h_c ?_
    refine h_nil ?_
    refine ⟨B21, p_state, x20.2, 9, w, rfl, m_state, (P.bind).mono (fun x26 P => ?_) (fun _ z => z)⟩
    refine fun v30 B27 H28 s29 m_state r31 => ?_
    replace st := st.go s29 (go1 (.inl (by simp)))
    replace w := s29.ok
    cases r31
    refine h_I0 ?_
    refine h_nil ?_
    refine ⟨B27, (1 + x20.1), (1 + x26.1), w, rfl, (P.bind).mono (fun x32 P => ?_) (fun _ z => z)⟩
    refine fun v36 B33 H34 s35 r37 => ?_
    replace m_state := m_state.step s35 nm0
    replace st := st.go s35 go0
    replace w := s35.ok
    refine h_seq <| h_if ?_
    refine h_test ?_
    refine h_op ?_
    refine h_call ?_
    refine h_cons ?_
    refine h_var rfl ?_
    refine h_cons ?_
    refine h_c ?_
    refine h_nil ?_
    refine ⟨B33, p_state, x26.2, 4, w, rfl, m_state, (P.bind).mono (fun x38 P => ?_) (fun _ z => z)⟩
    refine fun v42 B39 H40 s41 m_state r43 => ?_
    replace r37 := r37.mono s41.ex
    replace st := st.go s41 (go1 (.inl (by simp)))
    replace w := s41.ok
    cases r43
    refine h_c ?_
    refine h_eqI ?_
    refine h_bl ?_
    refine h_ite (fun c1 => ?_) (fun c1 => ?_)
    · replace P := P.iteT c1
      refine h_ret ?_
      refine h_tup ?_
      refine h_cons ?_
      refine h_var rfl ?_
      refine h_cons ?_
      refine h_c ?_
      refine h_cons ?_
      refine h_tup ?_
      refine h_cons ?_
      refine h_c ?_
      refine h_cons ?_
      refine h_c ?_
      refine h_nil ?_
      refine h_newT w (K := K) (.cons (Rep.int _) (.cons (Rep.int _) .nil)) (fun p44 B45 H46 s47 r48 => ?_) (by show 2 ≤ sizeLine; decide)
      replace m_state := m_state.step s47 nm0
      replace r37 := r37.mono s47.ex
      replace st := st.go s47 go0
      replace w := s47.ok
      replace r48 : Rep K B45 (.ref p44) (enc (⟨0, 1⟩ : (Tp2 Int Int))) := r48
      refine h_nil ?_
      refine h_newT w (K := K) (.cons r37 (.cons Rep.non (.cons r48 .nil))) (fun p49 B50 H51 s52 r53 => ?_) (by show 3 ≤ sizeLine; decide)
      replace m_state := m_state.step s52 nm0
      replace r37 := r37.mono s52.ex
      replace st := st.go s52 go0
      replace w := s52.ok
      replace r53 : Rep K B50 (.ref p49) (enc (⟨x32, (), (⟨0, 1⟩ : (Tp2 Int Int))⟩ : (Tp3 (Tp2 Int Int) Unit (Tp2 Int Int)))) := r53
      exact P.ok _ _ _ st m_state r53
    · replace P := P.iteF c1
      refine h_next ?_
      refine h_nx ?_
      refine h_ret ?_
      refine h_tup ?_
      refine h_cons ?_
      refine h_var rfl ?_
      refine h_cons ?_
      refine h_call ?_
      refine h_cons ?_
      refine h_var rfl ?_
      refine h_cons ?_
      refine h_var rfl ?_
      refine h_nil ?_
      refine ⟨B39, p_state, x38.2, x16, w, rfl, m_state, (P.bind).mono (fun x54 P => ?_) (fun _ z => z)⟩
      refine fun v58 B55 H56 s57 m_state r59 => ?_
      replace r37 := r37.mono s57.ex
      replace st := st.go s57 (go1 (.inl (by simp)))
      replace w := s57.ok
      refine h_cons ?_
      refine h_call ?_
      refine h_cons ?_
      refine h_var rfl ?_
      refine h_cons ?_
      refine h_c ?_
      refine h_nil ?_
      refine ⟨B55, p_state, x54.2, 5, w, rfl, m_state, (P.bind).mono (fun x60 P => ?_) (fun _ z => z)⟩
      refine fun v64 B61 H62 s63 m_state r65 => ?_
      replace r37 := r37.mono s63.ex
      replace r59 := r59.mono s63.ex
      replace st := st.go s63 (go1 (.inl (by simp)))
      replace w := s63.ok
      refine h_nil ?_
      refine h_newT w (K := K) (.cons r37 (.cons r59 (.cons r65 .nil))) (fun p66 B67 H68 s69 r70 => ?_) (by show 3 ≤ sizeLine; decide)
      replace m_state := m_state.step s69 nm0
      replace r37 := r37.mono s69.ex
      replace st := st.go s69 go0
      replace w := s69.ok
      replace r70 : Rep K B67 (.ref p66) (enc (⟨x32, x54.1, x60.1⟩ : (Tp3 (Tp2 Int Int) (Tp2 Int Int) (Tp2 Int Int)))) := r70
      exact P.ok _ _ _ st m_state r70
theorem ok__law_head {f : Addr} {fd : FuncData}  (F : Fun K "_law_head" "_law_head" s__law_head f fd) {f__law_digit : Addr} {d__law_digit : FuncData} (g__law_digit : mg "_law_digit" = some (.ref f__law_digit)) (k__law_digit : PySem.W.keepIn K (.ref f__law_digit) = true) (b__law_digit : L2.Binds K d__law_digit ["_law_state", "_law_base"] []) (G__law_digit : FnOk Pr wo K mg base CX0 1 f__law_digit d__law_digit ["_law_state", "_law_base"] (sp__law_digit K)) {f__law_edit : Addr} {d__law_edit : FuncData} (g__law_edit : mg "_law_edit" = some (.ref f__law_edit)) (k__law_edit : PySem.W.keepIn K (.ref f__law_edit) = true) (b__law_edit : L2.Binds K d__law_edit ["_law_state"] []) (G__law_edit : FnOk Pr wo K mg base CX0 4 f__law_edit d__law_edit ["_law_state"] (sp__law_edit K)) (bI_range : mg "range" = none) : FnOk Pr wo K mg base CX0 5 f fd ["_law_state"] (sp__law_head K) := by
  refine F.ok sc__law_head (fun vs H Q E h => ?_) (fun cdv A outer s H0 vs Q E hr h => ?_)
  · obtain ⟨_, _, _, _, rfl, _⟩ := h; rfl
  · obtain ⟨B0, p_state, a_state, w, rfl, m_state, P⟩ := h
    have w0 := w
    have hu := hu_of hr
    have hu64 := hu64_of hr
    have hu65 := hu65_of hr
    have hr1 : Room 1 _ := hr.mono (by decide)
    have hr4 : Room 4 _ := hr.mono (by decide)
    refine ⟨_, (pss_cons (ps_set (i := 1) sc__law_head.nd rfl (by first | exact Or.inl rfl | exact Or.inr rfl) (pe_lst pa_nil))
      (pss_cons (ps_for PassesOwn.never rfl (pi_range1 (by rfl) bI_range (pa_cons (pe_op op_add pe_int (pe_call G__law_digit hr1 rfl g__law_digit k__law_digit b__law_digit .nil pass0 (pa_cons (pv 0) (pa_cons (pe_ix (r := rIxL K) ix_list (pe_lst (pa_cons pe_int (pa_cons pe_int pa_nil))) (pe_call G__law_digit hr1 rfl g__law_digit k__law_digit b__law_digit .nil pass0 (pa_cons (pv 0) (pa_cons pe_int pa_nil))) (fun _ _ => rfl)) pa_nil)))) pa_nil)) (pg_name (i := 2) sc__law_head.nd rfl (by first | exact Or.inl rfl | exact Or.inr rfl)) (pss_cons (ps_setLc (i := 3) (own := [("_law_j", 4)]) rfl sc__law_head.nd rfl rfl (sw_true rfl rfl rfl rfl) (pi_range1 (by rfl) bI_range (pa_cons (pe_call G__law_digit hr1 rfl g__law_digit k__law_digit b__law_digit .nil pass0 (pa_cons (pv 0) (pa_cons pe_int pa_nil))) pa_nil)) (blkOk_by (N := ["_law_state", "_law_lanes", "_law_k", "_law_rows", "_law_j", "_law_units"]) (sc := defScope s__law_head) (by decide +kernel)) (fun _ _ _ _ _ => (pg_name (i := 4) sc__law_head.nd rfl (by first | exact Or.inl rfl | exact Or.inr rfl))) (fun _ _ _ _ _ => pts_nil) (fun _ _ _ _ _ => (pe_call G__law_edit hr4 rfl g__law_edit k__law_edit b__law_edit .nil pass0 (pa_cons (pv 0) pa_nil))))
      (pss_cons (ps_set (i := 5) sc__law_head.nd rfl (by first | exact Or.inl rfl | exact Or.inr rfl) (pe_ix (r := rIxL K) ix_list (pe_lst (pa_cons pe_int (pa_cons pe_int (pa_cons (pe_op op_add pe_int (pe_call G__law_digit hr1 rfl g__law_digit k__law_digit b__law_digit .nil pass0 (pa_cons (pv 0) (pa_cons (pe_op op_pow pe_int pe_int) pa_nil)))) pa_nil)))) (pe_call G__law_digit hr1 rfl g__law_digit k__law_digit b__law_digit .nil pass0 (pa_cons (pv 0) (pa_cons pe_int pa_nil))) (fun _ _ => rfl)))
      (pss_one (ps_expr (pe_bm PySem.F.plainAttrs_list PySem.F.slot_list_append PySem.F.type_list_append mt_append (pv 1) (pa_cons (pe_tup (pa_cons (pv 5) (pa_cons (pe_call G__law_digit hr1 rfl g__law_digit k__law_digit b__law_digit .nil pass0 (pa_cons (pv 0) (pa_cons pe_int pa_nil))) (pa_cons (pv 3) pa_nil)))) pa_nil)))))))
      (pss_one (ps_ret (pe_tup (pa_cons (pe_call G__law_digit hr1 rfl g__law_digit k__law_digit b__law_digit .nil pass0 (pa_cons (pv 0) (pa_cons (pe_op op_add (pe_op op_pow pe_int pe_int) pe_int) pa_nil))) (pa_cons (pe_op op_add pe_int (pe_call G__law_digit hr1 rfl g__law_digit k__law_digit b__law_digit .nil pass0 (pa_cons (pv 0) (pa_cons pe_int pa_nil)))) (pa_cons (pv 1) pa_nil)))))))), ?_⟩
    unfold l_head at P
    have st := Stp.refl (W := [p_state]) w
    refine h_set ?_
    refine h_lst ?_
    refine h_nil ?_
    refine h_newM w (ds := (([] : List (Tp3 Int Int (List (Tp3 (Tp2 Int Int) (Option (Tp2 Int Int)) (Tp2 Int Int)))))).map enc) (K := K) .nil (fun p1 H2 hn5 s3 m4 => ?_) (by show 0 ≤ sizeLine; decide)
    have n6 := st.nn hn5
    have ne7 := Mu.ne m_state hn5
    replace m_state := m_state.step s3 nm0
    replace st := st.go s3 go0
    replace w := s3.ok
    refine h_seq ?_
    refine h_rng1 ?_
    refine h_cons ?_
    refine h_op ?_
    refine h_c ?_
    refine h_call ?_
    refine h_cons ?_
    refine h_var rfl ?_
    refine h_cons ?_
    refine h_op ?_
    refine h_lst ?_
    refine h_cons ?_
    refine h_c ?_
    refine h_cons ?_
    refine h_c ?_
    refine h_nil ?_
    refine h_newL w (ds := (([3, 8] : List Int)).map enc) (K := K) (.cons (Rep.int _) (.cons (Rep.int _) .nil)) (fun p8 B9 H10 s11 r12 => ?_) (by show 2 ≤ sizeLine; decide)
    replace m_state := m_state.step s11 nm0
    replace m4 := m4.step s11 nm0
    replace st := st.go s11 go0
    replace w := s11.ok
    replace r12 : Rep K B9 (.ref p8) (enc ([3, 8] : List Int)) := r12
    refine h_call ?_
    refine h_cons ?_
    refine h_var rfl ?_
    refine h_cons ?_
    refine h_c ?_
    refine h_nil ?_
    refine ⟨B9, p_state, a_state, 2, w, rfl, m_state, (P.bind).mono (fun x13 P => ?_) (fun _ z => z)⟩
    refine fun v17 B14 H15 s16 m_state r18 => ?_
    replace m4 := m4.step s16 (nm1 ne7.symm)
    replace r12 := r12.mono s16.ex
    replace st := st.go s16 (go1 (.inl (by simp)))
    replace w := s16.ok
    cases r18
    obtain ⟨p19, xs20, hv, hs21, hr22⟩ := Rep.sq w r12
    cases hv
    obtain ⟨x23, hx24, P⟩ := P.ix
    obtain ⟨u25, hu, r26⟩ := RepL.atE hr22 hx24
    refine h_ixL hs21 hu ?_
    cases r26
    refine h_nil ?_
    refine ⟨B14, p_state, x13.2, x23, w, rfl, m_state, (P.bind).mono (fun x27 P => ?_) (fun _ z => z)⟩
    refine fun v31 B28 H29 s30 m_state r32 => ?_
    replace m4 := m4.step s30 (nm1 ne7.symm)
    replace st := st.go s30 (go1 (.inl (by simp)))
    replace w := s30.ok
    cases r32
    refine h_I0 ?_
    refine h_nil ?_
    obtain ⟨gz33, P⟩ := P.guard
    have wj35 := w
    have sj34 := Stp.refl (W := [p_state, p1]) w
    refine h_forR1 P gz33 (fun (a : (List Int) × (List (Tp3 Int Int (List (Tp3 (Tp2 Int Int) (Option (Tp2 Int Int)) (Tp2 Int Int)))))) σ' H' => ∃ (B' : Hp) (o__law_rows : Option V) (o__law_j : Option V) (o__law_units : Option V) (o__law_k : Option V), Stp [p_state, p1] B28 H29 B' H' ∧ σ' = [some ((.ref p_state)), some ((.ref p1)), o__law_k, o__law_rows, o__law_j, o__law_units] ∧ Mu K B' H' p_state (a.1.map enc) ∧ Mu K B' H' p1 (a.2.map enc)) ⟨_, _, _, _, _, sj34, rfl, m_state, m4⟩ ?_ ?_
    · rintro N36 T37 x42 a41 _ H46 ⟨B45, o48, o49, o50, o51, s47, rfl, m_state, m4⟩ hlox42 hhix42 kk38 kr39 kb40 P
      replace st := st.go s47 (go2 (.inl (by simp)) (.inr n6))
      replace w := s47.ok
      have sj34 := s47
      refine h_gname ?_
      refine h_seq <| h_asg ?_
      refine h_lcR1E ?_
      refine h_cons ?_
      refine h_call ?_
      refine h_cons ?_
      refine h_var rfl ?_
      refine h_cons ?_
      refine h_c ?_
      refine h_nil ?_
      refine ⟨B45, p_state, a41.1, 5, w, rfl, m_state, (P.bind).mono (fun x52 P => ?_) (fun _ z => z)⟩
      refine fun v56 B53 H54 s55 m_state r57 => ?_
      replace m4 := m4.step s55 (nm1 ne7.symm)
      replace st := st.go s55 (go1 (.inl (by simp)))
      replace sj34 := sj34.go s55 (go1 (.inl (by simp)))
      replace w := s55.ok
      cases r57
      refine h_nil ?_
      obtain ⟨gz58, P⟩ := P.guard
      refine h_lcR1 P (fun Dl (acc : List (Tp3 (Tp2 Int Int) (Option (Tp2 Int Int)) (Tp2 Int Int))) (a : (List Int)) H' => ∃ B', Stp [p_state] B53 H54 B' H' ∧ H54 Dl = none ∧ Mu K B' H' Dl (acc.map enc) ∧ p_state ≠ Dl ∧ p1 ≠ Dl ∧ Mu K B' H' p_state (a.map enc)) (fun Dl hD => ⟨_, Stp.newM w hD, hD, Mu.new w hD .nil, Mu.ne m_state hD, Mu.ne m4 hD, m_state.step (Stp.newM (W := []) w hD) nm0⟩) ?_ ?_ gz58
      · rintro Dl59 N60 T61 x62 acc65 a66 H67 ⟨B68, s69, hD70, m71, ne75, ne76, m_state⟩ hlox62 hhix62 hz72 kk73 kn74 P
        have wj78 := w
        have sj77 := s69
        have n79 := st.nn hD70
        have n80 := sj34.nn hD70
        replace m4 := m4.step s69 (nm1 ne7.symm)
        replace st := st.go s69 (go1 (.inl (by simp)))
        replace sj34 := sj34.go s69 (go1 (.inl (by simp)))
        replace w := s69.ok
        refine h_gname ?_
        refine h_lcT rfl ?_
        refine h_call ?_
        refine h_cons ?_
        refine h_var rfl ?_
        refine h_nil ?_
        refine ⟨B68, p_state, a66, w, rfl, m_state, (P.bind).mono (fun x81 P => ?_) (fun _ z => z)⟩
        refine fun v85 B82 H83 s84 m_state r86 => ?_
        replace m4 := m4.step s84 (nm1 ne7.symm)
        replace m71 := m71.step s84 (nm1 ne75.symm)
        replace st := st.go s84 (go1 (.inl (by simp)))
        replace sj34 := sj34.go s84 (go1 (.inl (by simp)))
        replace sj77 := sj77.go s84 (go1 (.inl (by simp)))
        replace w := s84.ok
        refine h_app (b := x81.1) w m71 r86 hz72 (fun H87 s88 m71 => ?_)
        replace m_state := m_state.step s88 (nm1 ne75)
        replace m4 := m4.step s88 (nm1 ne76)
        replace st := st.go s88 (go1 (.inr n79))
        replace sj34 := sj34.go s88 (go1 (.inr n80))
        replace sj77 := sj77.go s88 (go1 (.inr hD70))
        replace w := s88.ok
        exact kk73 x81.1 x81.2 _ ⟨_, sj77, hD70, m71, ne75, ne76, m_state⟩ P.ok
      · rintro Dl59 acc65 a66 H67 ⟨B68, s69, hD70, m71, ne75, ne76, m_state⟩ P
        have n89 := st.nn hD70
        have n90 := sj34.nn hD70
        replace m4 := m4.step s69 (nm1 ne7.symm)
        replace st := st.go s69 (go1 (.inl (by simp)))
        replace sj34 := sj34.go s69 (go1 (.inl (by simp)))
        replace w := s69.ok
        replace P := P.un2
        obtain ⟨B95, e91, k92, g93, r94⟩ := Mu.keep m71
        replace st := g93 _ _ _ st w0 n89
        replace sj34 := g93 _ _ _ sj34 wj35 n90
        replace m_state := m_state.kp e91 k92 ne75
        replace m4 := m4.kp e91 k92 ne76
        replace w := st.ok
        replace r94 : Rep K B95 (.ref Dl59) (enc acc65) := r94
        refine h_gname ?_
        refine h_nx ?_
        refine h_set ?_
        refine h_op ?_
        refine h_lst ?_
        refine h_cons ?_
        refine h_c ?_
        refine h_cons ?_
        refine h_c ?_
        refine h_cons ?_
        refine h_op ?_
        refine h_c ?_
        refine h_call ?_
        refine h_cons ?_
        refine h_var rfl ?_
        refine h_cons ?_
        refine h_op (h_c (h_c (h_pow (k := 1000000) (by decide +kernel) (by decide +kernel) ?_)))
        refine h_nil ?_
        refine ⟨B95, p_state, a66, 1000000, w, rfl, m_state, (P.bind).mono (fun x96 P => ?_) (fun _ z => z)⟩
        refine fun v100 B97 H98 s99 m_state r101 => ?_
        replace m4 := m4.step s99 (nm1 ne7.symm)
        replace r94 := r94.mono s99.ex
        replace st := st.go s99 (go1 (.inl (by simp)))
        replace sj34 := sj34.go s99 (go1 (.inl (by simp)))
        replace w := s99.ok
        cases r101
        refine h_I0 ?_
        refine h_nil ?_
        refine h_newL w (ds := (([1, 1000, (1 + x96.1)] : List Int)).map enc) (K := K) (.cons (Rep.int _) (.cons (Rep.int _) (.cons (Rep.int _) .nil))) (fun p102 B103 H104 s105 r106 => ?_) (by show 3 ≤ sizeLine; decide)
        replace m_state := m_state.step s105 nm0
        replace m4 := m4.step s105 nm0
        replace r94 := r94.mono s105.ex
        replace st := st.go s105 go0
        replace sj34 := sj34.go s105 go0
        replace w := s105.ok
        replace r106 : Rep K B103 (.ref p102) (enc ([1, 1000, (1 + x96.1)] : List Int)) := r106
        refine h_call ?_
        refine h_cons ?_
        refine h_var rfl ?_
        refine h_cons ?_
        refine h_c ?_
        refine h_nil ?_
        refine ⟨B103, p_state, x96.2, 3, w, rfl, m_state, (P.bind).mono (fun x107 P => ?_) (fun _ z => z)⟩
        refine fun v111 B108 H109 s110 m_state r112 => ?_
        replace m4 := m4.step s110 (nm1 ne7.symm)
        replace r94 := r94.mono s110.ex
        replace r106 := r106.mono s110.ex
        replace st := st.go s110 (go1 (.inl (by simp)))
        replace sj34 := sj34.go s110 (go1 (.inl (by simp)))
        replace w := s110.ok
        cases r112
        obtain ⟨p113, xs114, hv, hs115, hr116⟩ := Rep.sq w r106
        cases hv
        obtain ⟨x117, hx118, P⟩ := P.ix
        obtain ⟨u119, hu, r120⟩ := RepL.atE hr116 hx118
        refine h_ixL hs115 hu ?_
        cases r120
        refine h_drop ?_
        refine h_bm ?_
        refine h_var rfl ?_
        refine h_bmL m4 ?_
        refine h_cons ?_
        refine h_tup ?_
        refine h_cons ?_
        refine h_var rfl ?_
        refine h_cons ?_
        refine h_call ?_
        refine h_cons ?_
        refine h_var rfl ?_
        refine h_cons ?_
        refine h_c ?_
        refine h_nil ?_
        refine ⟨B108, p_state, x107.2, 201, w, rfl, m_state, (P.bind).mono (fun x121 P => ?_) (fun _ z => z)⟩
        refine fun v125 B122 H123 s124 m_state r126 => ?_
        replace m4 := m4.step s124 (nm1 ne7.symm)
        replace r94 := r94.mono s124.ex
        replace st := st.go s124 (go1 (.inl (by simp)))
        replace sj34 := sj34.go s124 (go1 (.inl (by simp)))
        replace w := s124.ok
        cases r126
        refine h_cons ?_
        refine h_var rfl ?_
        refine h_nil ?_
        refine h_newT w (K := K) (.cons (Rep.int _) (.cons (Rep.int _) (.cons r94 .nil))) (fun p127 B128 H129 s130 r131 => ?_) (by show 3 ≤ sizeLine; decide)
        replace m_state := m_state.step s130 nm0
        replace m4 := m4.step s130 nm0
        replace r94 := r94.mono s130.ex
        replace st := st.go s130 go0
        replace sj34 := sj34.go s130 go0
        replace w := s130.ok
        replace r131 : Rep K B128 (.ref p127) (enc (⟨x117, x121.1, acc65⟩ : (Tp3 Int Int (List (Tp3 (Tp2 Int Int) (Option (Tp2 Int Int)) (Tp2 Int Int)))))) := r131
        refine h_nil ?_
        obtain ⟨gd, P⟩ := P.guard
        refine h_append (b := (⟨x117, x121.1, acc65⟩ : (Tp3 Int Int (List (Tp3 (Tp2 Int Int) (Option (Tp2 Int Int)) (Tp2 Int Int)))))) w m4 r131 gd (fun H132 s133 m4 => ?_)
        replace m_state := m_state.step s133 (nm1 ne7)
        replace r94 := r94.mono s133.ex
        replace st := st.go s133 (go1 (.inr n6))
        replace sj34 := sj34.go s133 (go1 (.inl (by simp)))
        replace w := s133.ok
        refine h_nx ?_
        exact kk38 (x121.2, (a41.2 ++ [(⟨x117, x121.1, acc65⟩ : (Tp3 Int Int (List (Tp3 (Tp2 Int Int) (Option (Tp2 Int Int)) (Tp2 Int Int)))))])) _ _ ⟨_, _, _, _, _, sj34, rfl, m_state, m4⟩ P.ok
    · rintro a134 _ H136 ⟨B135, o138, o139, o140, o141, s137, rfl, m_state, m4⟩ P
      replace st := st.go s137 (go2 (.inl (by simp)) (.inr n6))
      replace w := s137.ok
      refine h_nx ?_
      refine h_ret ?_
      refine h_tup ?_
      refine h_cons ?_
      refine h_call ?_
      refine h_cons ?_
      refine h_var rfl ?_
      refine h_cons ?_
      refine h_op ?_
      refine h_op (h_c (h_c (h_pow (k := 1000000000) (by decide +kernel) (by decide +kernel) ?_)))
      refine h_c ?_
      refine h_I0 ?_
      refine h_nil ?_
      refine ⟨B135, p_state, a134.1, (1000000000 + 1), w, rfl, m_state, (P.bind).mono (fun x142 P => ?_) (fun _ z => z)⟩
      refine fun v146 B143 H144 s145 m_state r147 => ?_
      replace m4 := m4.step s145 (nm1 ne7.symm)
      replace st := st.go s145 (go1 (.inl (by simp)))
      replace w := s145.ok
      cases r147
      refine h_cons ?_
      refine h_op ?_
      refine h_c ?_
      refine h_call ?_
      refine h_cons ?_
      refine h_var rfl ?_
      refine h_cons ?_
      refine h_c ?_
      refine h_nil ?_
      refine ⟨B143, p_state, x142.2, 16, w, rfl, m_state, (P.bind).mono (fun x148 P => ?_) (fun _ z => z)⟩
      refine fun v152 B149 H150 s151 m_state r153 => ?_
      replace m4 := m4.step s151 (nm1 ne7.symm)
      replace st := st.go s151 (go1 (.inl (by simp)))
      replace w := s151.ok
      cases r153
      refine h_I0 ?_
      refine h_cons ?_
      refine h_var rfl ?_
      refine h_nil ?_
      obtain ⟨B158, e154, k155, g156, r157⟩ := Mu.keep m4
      replace st := g156 _ _ _ st w0 n6
      replace m_state := m_state.kp e154 k155 ne7
      replace w := st.ok
      replace r157 : Rep K B158 (.ref p1) (enc a134.2) := r157
      refine h_newT w (K := K) (.cons (Rep.int _) (.cons (Rep.int _) (.cons r157 .nil))) (fun p159 B160 H161 s162 r163 => ?_) (by show 3 ≤ sizeLine; decide)
      replace m_state := m_state.step s162 nm0
      replace r157 := r157.mono s162.ex
      replace st := st.go s162 go0
      replace w := s162.ok
      replace r163 : Rep K B160 (.ref p159) (enc (⟨x142.1, (1 + x148.1), a134.2⟩ : (Tp3 Int Int (List (Tp3 Int Int (List (Tp3 (Tp2 Int Int) (Option (Tp2 Int Int)) (Tp2 Int Int)))))))) := r163
      exact P.ok _ _ _ st m_state r163
theorem ok__law_no_edit {f : Addr} {fd : FuncData}  (F : Fun K "_law_no_edit" "_law_no_edit" s__law_no_edit f fd) {f__law_digit : Addr} {d__law_digit : FuncData} (g__law_digit : mg "_law_digit" = some (.ref f__law_digit)) (k__law_digit : PySem.W.keepIn K (.ref f__law_digit) = true) (b__law_digit : L2.Binds K d__law_digit ["_law_state", "_law_base"] []) (G__law_digit : FnOk Pr wo K mg base CX0 1 f__law_digit d__law_digit ["_law_state", "_law_base"] (sp__law_digit K)) (bI_list : mg "list" = none) (bI_len : mg "len" = none) : FnOk Pr wo K mg base CX0 2 f fd ["_law_state", "_law_row"] (sp__law_no_edit K) := by
  refine F.ok sc__law_no_edit (fun vs H Q E h => ?_) (fun cdv A outer s H0 vs Q E hr h => ?_)
  · obtain ⟨_, _, _, _, _, _, rfl, _⟩ := h; rfl
  · obtain ⟨B0, p_state, a_state, v_row, a_row, w, rfl, m_state, r_row, P⟩ := h
    have w0 := w
    have hu := hu_of hr
    have hu64 := hu64_of hr
    have hu65 := hu65_of hr
    have hr1 : Room 1 _ := hr.mono (by decide)
    refine ⟨_, (pss_cons (ps_set (i := 2) sc__law_no_edit.nd rfl (by first | exact Or.inl rfl | exact Or.inr rfl) (pe_lst (pa_cons pe_non (pa_cons (pe_slice (r := rSlA K) sl_tupA (pv 1) po_none (po_some pe_int)) (pa_cons (pe_callTy (r := rListY K) cr_list (by rfl) bI_list Y.boot_list (pa_cons (pv 1) pa_nil)) (pa_cons (pe_tup (pa_cons (pe_tup (pa_cons pe_int (pa_cons pe_int pa_nil))) (pa_cons (pe_ix (r := rIxT K) ix_tup (pv 1) pe_int (fun _ _ => rfl)) (pa_cons (pe_ix (r := rIxT K) ix_tup (pv 1) pe_int (fun _ _ => rfl)) pa_nil)))) (pa_cons (pe_tup (pa_cons (pe_tup (pa_cons pe_int (pa_cons pe_int pa_nil))) (pa_cons (pe_ix (r := rIxT K) ix_tup (pv 1) pe_int (fun _ _ => rfl)) (pa_cons (pe_ix (r := rIxT K) ix_tup (pv 1) pe_int (fun _ _ => rfl)) pa_nil)))) (pa_cons (pe_tup (pa_cons (pe_ix (r := rIxT K) ix_tup (pv 1) pe_int (fun _ _ => rfl)) (pa_cons (pe_tup (pa_cons pe_int (pa_cons pe_int pa_nil))) (pa_cons (pe_tup (pa_cons pe_int (pa_cons pe_int pa_nil))) pa_nil)))) pa_nil))))))))
      (pss_cons (ps_set (i := 2) sc__law_no_edit.nd rfl (by first | exact Or.inl rfl | exact Or.inr rfl) (pe_op (r := rCatQ K) op_catQ (pv 2) (pe_lst (pa_cons (pe_tup (pa_cons (pe_tup (pa_cons (pe_un un_neg pe_int) (pa_cons pe_int pa_nil))) (pa_cons (pe_ix (r := rIxT K) ix_tup (pv 1) pe_int (fun _ _ => rfl)) (pa_cons (pe_ix (r := rIxT K) ix_tup (pv 1) pe_int (fun _ _ => rfl)) pa_nil)))) (pa_cons (pe_tup (pa_cons (pe_ix (r := rIxT K) ix_tup (pv 1) pe_int (fun _ _ => rfl)) (pa_cons pe_non (pa_cons (pe_tup (pa_cons pe_int (pa_cons pe_int pa_nil))) pa_nil)))) (pa_cons (pe_tup (pa_cons (pe_ix (r := rIxT K) ix_tup (pv 1) pe_int (fun _ _ => rfl)) (pa_cons (pe_tup (pa_cons pe_int (pa_cons pe_int pa_nil))) (pa_cons (pe_tup (pa_cons (pe_un un_neg pe_int) (pa_cons pe_int pa_nil))) pa_nil)))) (pa_cons (pe_tup (pa_cons (pe_ix (r := rIxT K) ix_tup (pv 1) pe_int (fun _ _ => rfl)) (pa_cons pe_int (pa_cons (pe_tup (pa_cons pe_int (pa_cons pe_int pa_nil))) pa_nil)))) pa_nil)))))))
      (pss_cons (ps_set (i := 2) sc__law_no_edit.nd rfl (by first | exact Or.inl rfl | exact Or.inr rfl) (pe_op (r := rCatQ K) op_catQ (pv 2) (pe_lst (pa_cons (pe_tup (pa_cons (pe_tup (pa_cons (pe_op op_add (pe_op op_pow pe_int pe_int) pe_int) (pa_cons pe_int pa_nil))) (pa_cons pe_non (pa_cons (pe_tup (pa_cons pe_int (pa_cons pe_int pa_nil))) pa_nil)))) (pa_cons (pe_tup (pa_cons (pe_ix (r := rIxT K) ix_tup (pv 1) pe_int (fun _ _ => rfl)) (pa_cons (pe_tup (pa_cons pe_int (pa_cons (pe_op op_add (pe_op op_pow pe_int pe_int) pe_int) pa_nil))) (pa_cons (pe_tup (pa_cons pe_int (pa_cons pe_int pa_nil))) pa_nil)))) (pa_cons (pe_tup (pa_cons (pe_tup (pa_cons (pe_cmpR op_eq pe_int pe_int (nomark _)) (pa_cons pe_int pa_nil))) (pa_cons pe_non (pa_cons (pe_tup (pa_cons pe_int (pa_cons pe_int pa_nil))) pa_nil)))) pa_nil))))))
      (pss_one (ps_ret (pe_ix (r := rIxL K) ix_list (pv 2) (pe_call G__law_digit hr1 rfl g__law_digit k__law_digit b__law_digit .nil pass0 (pa_cons (pv 0) (pa_cons (pe_callB (r := rLenY K) cr_len (by rfl) bI_len PySem.boot_len (pa_cons (pv 2) pa_nil)) pa_nil))) (fun _ _ => rfl))))))), ?_⟩
    unfold l_no_edit at P
    have st := Stp.refl (W := [p_state]) w
    refine h_set ?_
    refine h_lst ?_
    refine h_cons ?_
    refine h_c ?_
    refine h_cons ?_
    refine h_sl ?_
    refine h_var rfl ?_
    refine h_nopart ?_
    refine h_part ?_
    refine h_c ?_
    refine h_isI ?_
    obtain ⟨l1, hl2, P⟩ := P.asT
    have rc3 := (r_row.mono st.ex)
    rw [hl2] at rc3
    obtain ⟨p4, xs5, rfl, hs6, hr7⟩ := Rep.st w rc3
    refine h_slA w rc3 (fun u8 B9 H10 s11 r12 => ?_)
    replace m_state := m_state.step s11 nm0
    replace st := st.go s11 go0
    replace w := s11.ok
    replace r12 : Rep K B9 u8 (enc (.tup ((cutL l1 none (some 2)).map enc) : D)) := r12
    refine h_cons ?_
    refine h_cb ?_
    refine h_cons ?_
    refine h_var rfl ?_
    refine h_nil ?_
    obtain ⟨l13, hl14, P⟩ := P.asT
    have rc15 := (r_row.mono st.ex)
    rw [hl14] at rc15
    obtain ⟨p16, xs17, hv, hs18, hr19⟩ := Rep.st w rc15
    cases hv
    refine h_listT hs18 ?_
    refine h_nwL w (ds := (l13).map enc) (K := K) hr19 (fun p20 B21 H22 s23 r24 => ?_) 
    replace m_state := m_state.step s23 nm0
    replace r12 := r12.mono s23.ex
    replace st := st.go s23 go0
    replace w := s23.ok
    replace r24 : Rep K B21 (.ref p20) (enc l13) := r24
    refine h_cons ?_
    refine h_tup ?_
    refine h_cons ?_
    refine h_tup ?_
    refine h_cons ?_
    refine h_c ?_
    refine h_cons ?_
    refine h_c ?_
    refine h_nil ?_
    refine h_newT w (K := K) (.cons (Rep.int _) (.cons (Rep.int _) .nil)) (fun p25 B26 H27 s28 r29 => ?_) (by show 2 ≤ sizeLine; decide)
    replace m_state := m_state.step s28 nm0
    replace r12 := r12.mono s28.ex
    replace r24 := r24.mono s28.ex
    replace st := st.go s28 go0
    replace w := s28.ok
    replace r29 : Rep K B26 (.ref p25) (enc (⟨0, 1⟩ : (Tp2 Int Int))) := r29
    refine h_cons ?_
    refine h_op ?_
    refine h_var rfl ?_
    refine h_c ?_
    obtain ⟨l30, hl31, P⟩ := P.asT
    have rc32 := (r_row.mono st.ex)
    rw [hl31] at rc32
    obtain ⟨p33, xs34, hv, hs35, hr36⟩ := Rep.st w rc32
    cases hv
    obtain ⟨x37, hx38, P⟩ := P.ix
    obtain ⟨u39, hu, r40⟩ := RepL.atE hr36 hx38
    refine h_ixT hs35 hu ?_
    refine h_cons ?_
    refine h_op ?_
    refine h_var rfl ?_
    refine h_c ?_
    obtain ⟨l41, hl42, P⟩ := P.asT
    have rc43 := (r_row.mono st.ex)
    rw [hl42] at rc43
    obtain ⟨p44, xs45, hv, hs46, hr47⟩ := Rep.st w rc43
    cases hv
    obtain ⟨x48, hx49, P⟩ := P.ix
    obtain ⟨u50, hu, r51⟩ := RepL.atE hr47 hx49
    refine h_ixT hs46 hu ?_
    refine h_nil ?_
    refine h_newT w (K := K) (.cons r29 (.cons r40 (.cons r51 .nil))) (fun p52 B53 H54 s55 r56 => ?_) (by show 3 ≤ sizeLine; decide)
    replace m_state := m_state.step s55 nm0
    replace r12 := r12.mono s55.ex
    replace r24 := r24.mono s55.ex
    replace st := st.go s55 go0
    replace w := s55.ok
    replace r56 : Rep K B53 (.ref p52) (enc (⟨(⟨0, 1⟩ : (Tp2 Int Int)), x37, x48⟩ : (Tp3 (Tp2 Int Int) D D))) := r56
    refine h_cons ?_
    refine h_tup ?_
    refine h_cons ?_
    refine h_tup ?_
    refine h_cons ?_
    refine h_c ?_
    refine h_cons ?_
    refine h_c ?_
    refine h_nil ?_
    refine h_newT w (K := K) (.cons (Rep.int _) (.cons (Rep.int _) .nil)) (fun p57 B58 H59 s60 r61 => ?_) (by show 2 ≤ sizeLine; decide)
    replace m_state := m_state.step s60 nm0
    replace r12 := r12.mono s60.ex
    replace r24 := r24.mono s60.ex
    replace r56 := r56.mono s60.ex
    replace st := st.go s60 go0
    replace w := s60.ok
    replace r61 : Rep K B58 (.ref p57) (enc (⟨2, 2⟩ : (Tp2 Int Int))) := r61
    refine h_cons ?_
    refine h_op ?_
    refine h_var rfl ?_
    refine h_c ?_
    obtain ⟨l62, hl63, P⟩ := P.asT
    have rc64 := (r_row.mono st.ex)
    rw [hl63] at rc64
    obtain ⟨p65, xs66, hv, hs67, hr68⟩ := Rep.st w rc64
    cases hv
    obtain ⟨x69, hx70, P⟩ := P.ix
    obtain ⟨u71, hu, r72⟩ := RepL.atE hr68 hx70
    refine h_ixT hs67 hu ?_
    refine h_cons ?_
    refine h_op ?_
    refine h_var rfl ?_
    refine h_c ?_
    obtain ⟨l73, hl74, P⟩ := P.asT
    have rc75 := (r_row.mono st.ex)
    rw [hl74] at rc75
    obtain ⟨p76, xs77, hv, hs78, hr79⟩ := Rep.st w rc75
    cases hv
    obtain ⟨x80, hx81, P⟩ := P.ix
    obtain ⟨u82, hu, r83⟩ := RepL.atE hr79 hx81
    refine h_ixT hs78 hu ?_
    refine h_nil ?_
    refine h_newT w (K := K) (.cons r61 (.cons r72 (.cons r83 .nil))) (fun p84 B85 H86 s87 r88 => ?_) (by show 3 ≤ sizeLine; decide)
    replace m_state := m_state.step s87 nm0
    replace r12 := r12.mono s87.ex
    replace r24 := r24.mono s87.ex
    replace r56 := r56.mono s87.ex
    replace st := st.go s87 go0
    replace w := s87.ok
    replace r88 : Rep K B85 (.ref p84) (enc (⟨(⟨2, 2⟩ : (Tp2 Int Int)), x69, x80⟩ : (Tp3 (Tp2 Int Int) D D))) := r88
    refine h_cons ?_
    refine h_tup ?_
    refine h_cons ?_
    refine h_op ?_
    refine h_var rfl ?_
    refine h_c ?_
    obtain ⟨l89, hl90, P⟩ := P.asT
    have rc91 := (r_row.mono st.ex)
    rw [hl90] at rc91
    obtain ⟨p92, xs93, hv, hs94, hr95⟩ := Rep.st w rc91
    cases hv
    obtain ⟨x96, hx97, P⟩ := P.ix
    obtain ⟨u98, hu, r99⟩ := RepL.atE hr95 hx97
    refine h_ixT hs94 hu ?_
    refine h_cons ?_
    refine h_tup ?_
    refine h_cons ?_
    refine h_c ?_
    refine h_cons ?_
    refine h_c ?_
    refine h_nil ?_
    refine h_newT w (K := K) (.cons (Rep.int _) (.cons (Rep.int _) .nil)) (fun p100 B101 H102 s103 r104 => ?_) (by show 2 ≤ sizeLine; decide)
    replace m_state := m_state.step s103 nm0
    replace r12 := r12.mono s103.ex
    replace r24 := r24.mono s103.ex
    replace r56 := r56.mono s103.ex
    replace r88 := r88.mono s103.ex
    replace r99 := r99.mono s103.ex
    replace st := st.go s103 go0
    replace w := s103.ok
    replace r104 : Rep K B101 (.ref p100) (enc (⟨1, 0⟩ : (Tp2 Int Int))) := r104
    refine h_cons ?_
    refine h_tup ?_
    refine h_cons ?_
    refine h_c ?_
    refine h_cons ?_
    refine h_c ?_
    refine h_nil ?_
    refine h_newT w (K := K) (.cons (Rep.int _) (.cons (Rep.int _) .nil)) (fun p105 B106 H107 s108 r109 => ?_) (by show 2 ≤ sizeLine; decide)
    replace m_state := m_state.step s108 nm0
    replace r12 := r12.mono s108.ex
    replace r24 := r24.mono s108.ex
    replace r56 := r56.mono s108.ex
    replace r88 := r88.mono s108.ex
    replace r99 := r99.mono s108.ex
    replace r104 := r104.mono s108.ex
    replace st := st.go s108 go0
    replace w := s108.ok
    replace r109 : Rep K B106 (.ref p105) (enc (⟨1, 1⟩ : (Tp2 Int Int))) := r109
    refine h_nil ?_
    refine h_newT w (K := K) (.cons r99 (.cons r104 (.cons r109 .nil))) (fun p110 B111 H112 s113 r114 => ?_) (by show 3 ≤ sizeLine; decide)
    replace m_state := m_state.step s113 nm0
    replace r12 := r12.mono s113.ex
    replace r24 := r24.mono s113.ex
    replace r56 := r56.mono s113.ex
    replace r88 := r88.mono s113.ex
    replace st := st.go s113 go0
    replace w := s113.ok
    replace r114 : Rep K B111 (.ref p110) (enc (⟨x96, (⟨1, 0⟩ : (Tp2 Int Int)), (⟨1, 1⟩ : (Tp2 Int Int))⟩ : (Tp3 D (Tp2 Int Int) (Tp2 Int Int)))) := r114
    refine h_nil ?_
    refine h_newL w (ds := (([(enc ()), (.tup ((cutL l1 none (some 2)).map enc) : D), (enc l13), (enc (⟨(⟨0, 1⟩ : (Tp2 Int Int)), x37, x48⟩ : (Tp3 (Tp2 Int Int) D D))), (enc (⟨(⟨2, 2⟩ : (Tp2 Int Int)), x69, x80⟩ : (Tp3 (Tp2 Int Int) D D))), (enc (⟨x96, (⟨1, 0⟩ : (Tp2 Int Int)), (⟨1, 1⟩ : (Tp2 Int Int))⟩ : (Tp3 D (Tp2 Int Int) (Tp2 Int Int))))] : List D)).map enc) (K := K) (.cons Rep.non (.cons r12 (.cons r24 (.cons r56 (.cons r88 (.cons r114 .nil)))))) (fun p115 B116 H117 s118 r119 => ?_) (by show 6 ≤ sizeLine; decide)
    replace m_state := m_state.step s118 nm0
    replace st := st.go s118 go0
    replace w := s118.ok
    replace r119 : Rep K B116 (.ref p115) (enc ([(enc ()), (.tup ((cutL l1 none (some 2)).map enc) : D), (enc l13), (enc (⟨(⟨0, 1⟩ : (Tp2 Int Int)), x37, x48⟩ : (Tp3 (Tp2 Int Int) D D))), (enc (⟨(⟨2, 2⟩ : (Tp2 Int Int)), x69, x80⟩ : (Tp3 (Tp2 Int Int) D D))), (enc (⟨x96, (⟨1, 0⟩ : (Tp2 Int Int)), (⟨1, 1⟩ : (Tp2 Int Int))⟩ : (Tp3 D (Tp2 Int Int) (Tp2 Int Int))))] : List D)) := r119
    refine h_set ?_
    refine h_op ?_
    refine h_var rfl ?_
    refine h_lst ?_
    refine h_cons ?_
    refine h_tup ?_
    refine h_cons ?_
    refine h_tup ?_
    refine h_cons ?_
    refine h_un ?_
    refine h_c ?_
    refine h_U ?_
    refine h_cons ?_
    refine h_c ?_
    refine h_nil ?_
    refine h_newT w (K := K) (.cons (Rep.int _) (.cons (Rep.int _) .nil)) (fun p120 B121 H122 s123 r124 => ?_) (by show 2 ≤ sizeLine; decide)
    replace m_state := m_state.step s123 nm0
    replace r119 := r119.mono s123.ex
    replace st := st.go s123 go0
    replace w := s123.ok
    replace r124 : Rep K B121 (.ref p120) (enc (⟨(-1), 2⟩ : (Tp2 Int Int))) := r124
    refine h_cons ?_
    refine h_op ?_
    refine h_var rfl ?_
    refine h_c ?_
    obtain ⟨l125, hl126, P⟩ := P.asT
    have rc127 := (r_row.mono st.ex)
    rw [hl126] at rc127
    obtain ⟨p128, xs129, hv, hs130, hr131⟩ := Rep.st w rc127
    cases hv
    obtain ⟨x132, hx133, P⟩ := P.ix
    obtain ⟨u134, hu, r135⟩ := RepL.atE hr131 hx133
    refine h_ixT hs130 hu ?_
    refine h_cons ?_
    refine h_op ?_
    refine h_var rfl ?_
    refine h_c ?_
    obtain ⟨l136, hl137, P⟩ := P.asT
    have rc138 := (r_row.mono st.ex)
    rw [hl137] at rc138
    obtain ⟨p139, xs140, hv, hs141, hr142⟩ := Rep.st w rc138
    cases hv
    obtain ⟨x143, hx144, P⟩ := P.ix
    obtain ⟨u145, hu, r146⟩ := RepL.atE hr142 hx144
    refine h_ixT hs141 hu ?_
    refine h_nil ?_
    refine h_newT w (K := K) (.cons r124 (.cons r135 (.cons r146 .nil))) (fun p147 B148 H149 s150 r151 => ?_) (by show 3 ≤ sizeLine; decide)
    replace m_state := m_state.step s150 nm0
    replace r119 := r119.mono s150.ex
    replace st := st.go s150 go0
    replace w := s150.ok
    replace r151 : Rep K B148 (.ref p147) (enc (⟨(⟨(-1), 2⟩ : (Tp2 Int Int)), x132, x143⟩ : (Tp3 (Tp2 Int Int) D D))) := r151
    refine h_cons ?_
    refine h_tup ?_
    refine h_cons ?_
    refine h_op ?_
    refine h_var rfl ?_
    refine h_c ?_
    obtain ⟨l152, hl153, P⟩ := P.asT
    have rc154 := (r_row.mono st.ex)
    rw [hl153] at rc154
    obtain ⟨p155, xs156, hv, hs157, hr158⟩ := Rep.st w rc154
    cases hv
    obtain ⟨x159, hx160, P⟩ := P.ix
    obtain ⟨u161, hu, r162⟩ := RepL.atE hr158 hx160
    refine h_ixT hs157 hu ?_
    refine h_cons ?_
    refine h_c ?_
    refine h_cons ?_
    refine h_tup ?_
    refine h_cons ?_
    refine h_c ?_
    refine h_cons ?_
    refine h_c ?_
    refine h_nil ?_
    refine h_newT w (K := K) (.cons (Rep.int _) (.cons (Rep.int _) .nil)) (fun p163 B164 H165 s166 r167 => ?_) (by show 2 ≤ sizeLine; decide)
    replace m_state := m_state.step s166 nm0
    replace r119 := r119.mono s166.ex
    replace r151 := r151.mono s166.ex
    replace r162 := r162.mono s166.ex
    replace st := st.go s166 go0
    replace w := s166.ok
    replace r167 : Rep K B164 (.ref p163) (enc (⟨1, 1⟩ : (Tp2 Int Int))) := r167
    refine h_nil ?_
    refine h_newT w (K := K) (.cons r162 (.cons Rep.non (.cons r167 .nil))) (fun p168 B169 H170 s171 r172 => ?_) (by show 3 ≤ sizeLine; decide)
    replace m_state := m_state.step s171 nm0
    replace r119 := r119.mono s171.ex
    replace r151 := r151.mono s171.ex
    replace st := st.go s171 go0
    replace w := s171.ok
    replace r172 : Rep K B169 (.ref p168) (enc (⟨x159, (), (⟨1, 1⟩ : (Tp2 Int Int))⟩ : (Tp3 D Unit (Tp2 Int Int)))) := r172
    refine h_cons ?_
    refine h_tup ?_
    refine h_cons ?_
    refine h_op ?_
    refine h_var rfl ?_
    refine h_c ?_
    obtain ⟨l173, hl174, P⟩ := P.asT
    have rc175 := (r_row.mono st.ex)
    rw [hl174] at rc175
    obtain ⟨p176, xs177, hv, hs178, hr179⟩ := Rep.st w rc175
    cases hv
    obtain ⟨x180, hx181, P⟩ := P.ix
    obtain ⟨u182, hu, r183⟩ := RepL.atE hr179 hx181
    refine h_ixT hs178 hu ?_
    refine h_cons ?_
    refine h_tup ?_
    refine h_cons ?_
    refine h_c ?_
    refine h_cons ?_
    refine h_c ?_
    refine h_nil ?_
    refine h_newT w (K := K) (.cons (Rep.int _) (.cons (Rep.int _) .nil)) (fun p184 B185 H186 s187 r188 => ?_) (by show 2 ≤ sizeLine; decide)
    replace m_state := m_state.step s187 nm0
    replace r119 := r119.mono s187.ex
    replace r151 := r151.mono s187.ex
    replace r172 := r172.mono s187.ex
    replace r183 := r183.mono s187.ex
    replace st := st.go s187 go0
    replace w := s187.ok
    replace r188 : Rep K B185 (.ref p184) (enc (⟨0, 1⟩ : (Tp2 Int Int))) := r188
    refine h_cons ?_
    refine h_tup ?_
    refine h_cons ?_
    refine h_un ?_
    refine h_c ?_
    refine h_U ?_
    refine h_cons ?_
    refine h_c ?_
    refine h_nil ?_
    refine h_newT w (K := K) (.cons (Rep.int _) (.cons (Rep.int _) .nil)) (fun p189 B190 H191 s192 r193 => ?_) (by show 2 ≤ sizeLine; decide)
    replace m_state := m_state.step s192 nm0
    replace r119 := r119.mono s192.ex
    replace r151 := r151.mono s192.ex
    replace r172 := r172.mono s192.ex
    replace r183 := r183.mono s192.ex
    replace r188 := r188.mono s192.ex
    replace st := st.go s192 go0
    replace w := s192.ok
    replace r193 : Rep K B190 (.ref p189) (enc (⟨(-1), 1⟩ : (Tp2 Int Int))) := r193
    refine h_nil ?_
    refine h_newT w (K := K) (.cons r183 (.cons r188 (.cons r193 .nil))) (fun p194 B195 H196 s197 r198 => ?_) (by show 3 ≤ sizeLine; decide)
    replace m_state := m_state.step s197 nm0
    replace r119 := r119.mono s197.ex
    replace r151 := r151.mono s197.ex
    replace r172 := r172.mono s197.ex
    replace st := st.go s197 go0
    replace w := s197.ok
    replace r198 : Rep K B195 (.ref p194) (enc (⟨x180, (⟨0, 1⟩ : (Tp2 Int Int)), (⟨(-1), 1⟩ : (Tp2 Int Int))⟩ : (Tp3 D (Tp2 Int Int) (Tp2 Int Int)))) := r198
    refine h_cons ?_
    refine h_tup ?_
    refine h_cons ?_
    refine h_op ?_
    refine h_var rfl ?_
    refine h_c ?_
    obtain ⟨l199, hl200, P⟩ := P.asT
    have rc201 := (r_row.mono st.ex)
    rw [hl200] at rc201
    obtain ⟨p202, xs203, hv, hs204, hr205⟩ := Rep.st w rc201
    cases hv
    obtain ⟨x206, hx207, P⟩ := P.ix
    obtain ⟨u208, hu, r209⟩ := RepL.atE hr205 hx207
    refine h_ixT hs204 hu ?_
    refine h_cons ?_
    refine h_c ?_
    refine h_cons ?_
    refine h_tup ?_
    refine h_cons ?_
    refine h_c ?_
    refine h_cons ?_
    refine h_c ?_
    refine h_nil ?_
    refine h_newT w (K := K) (.cons (Rep.int _) (.cons (Rep.int _) .nil)) (fun p210 B211 H212 s213 r214 => ?_) (by show 2 ≤ sizeLine; decide)
    replace m_state := m_state.step s213 nm0
    replace r119 := r119.mono s213.ex
    replace r151 := r151.mono s213.ex
    replace r172 := r172.mono s213.ex
    replace r198 := r198.mono s213.ex
    replace r209 := r209.mono s213.ex
    replace st := st.go s213 go0
    replace w := s213.ok
    replace r214 : Rep K B211 (.ref p210) (enc (⟨1, 1⟩ : (Tp2 Int Int))) := r214
    refine h_nil ?_
    refine h_newT w (K := K) (.cons r209 (.cons (Rep.int _) (.cons r214 .nil))) (fun p215 B216 H217 s218 r219 => ?_) (by show 3 ≤ sizeLine; decide)
    replace m_state := m_state.step s218 nm0
    replace r119 := r119.mono s218.ex
    replace r151 := r151.mono s218.ex
    replace r172 := r172.mono s218.ex
    replace r198 := r198.mono s218.ex
    replace st := st.go s218 go0
    replace w := s218.ok
    replace r219 : Rep K B216 (.ref p215) (enc (⟨x206, 3, (⟨1, 1⟩ : (Tp2 Int Int))⟩ : (Tp3 D Int (Tp2 Int Int)))) := r219
    refine h_nil ?_
    refine h_newL w (ds := (([(enc (⟨(⟨(-1), 2⟩ : (Tp2 Int Int)), x132, x143⟩ : (Tp3 (Tp2 Int Int) D D))), (enc (⟨x159, (), (⟨1, 1⟩ : (Tp2 Int Int))⟩ : (Tp3 D Unit (Tp2 Int Int)))), (enc (⟨x180, (⟨0, 1⟩ : (Tp2 Int Int)), (⟨(-1), 1⟩ : (Tp2 Int Int))⟩ : (Tp3 D (Tp2 Int Int) (Tp2 Int Int)))), (enc (⟨x206, 3, (⟨1, 1⟩ : (Tp2 Int Int))⟩ : (Tp3 D Int (Tp2 Int Int))))] : List D)).map enc) (K := K) (.cons r151 (.cons r172 (.cons r198 (.cons r219 .nil)))) (fun p220 B221 H222 s223 r224 => ?_) (by show 4 ≤ sizeLine; decide)
    replace m_state := m_state.step s223 nm0
    replace r119 := r119.mono s223.ex
    replace st := st.go s223 go0
    replace w := s223.ok
    replace r224 : Rep K B221 (.ref p220) (enc ([(enc (⟨(⟨(-1), 2⟩ : (Tp2 Int Int)), x132, x143⟩ : (Tp3 (Tp2 Int Int) D D))), (enc (⟨x159, (), (⟨1, 1⟩ : (Tp2 Int Int))⟩ : (Tp3 D Unit (Tp2 Int Int)))), (enc (⟨x180, (⟨0, 1⟩ : (Tp2 Int Int)), (⟨(-1), 1⟩ : (Tp2 Int Int))⟩ : (Tp3 D (Tp2 Int Int) (Tp2 Int Int)))), (enc (⟨x206, 3, (⟨1, 1⟩ : (Tp2 Int Int))⟩ : (Tp3 D Int (Tp2 Int Int))))] : List D)) := r224
    obtain ⟨p225, xs226, hv, hs227, hr228⟩ := Rep.sq w r119
    cases hv
    obtain ⟨p229, xs230, hv, hs231, hr232⟩ := Rep.sq w r224
    cases hv
    obtain ⟨gd, P⟩ := P.guard
    refine h_cat hs227 hs231 (by have g := gd; simp only [hr228.length, hr232.length, List.length_map] at g ⊢; exact Nat.le_trans g (by decide)) ?_
    refine h_nwL w (ds := ((([(enc ()), (.tup ((cutL l1 none (some 2)).map enc) : D), (enc l13), (enc (⟨(⟨0, 1⟩ : (Tp2 Int Int)), x37, x48⟩ : (Tp3 (Tp2 Int Int) D D))), (enc (⟨(⟨2, 2⟩ : (Tp2 Int Int)), x69, x80⟩ : (Tp3 (Tp2 Int Int) D D))), (enc (⟨x96, (⟨1, 0⟩ : (Tp2 Int Int)), (⟨1, 1⟩ : (Tp2 Int Int))⟩ : (Tp3 D (Tp2 Int Int) (Tp2 Int Int))))] : List D) ++ ([(enc (⟨(⟨(-1), 2⟩ : (Tp2 Int Int)), x132, x143⟩ : (Tp3 (Tp2 Int Int) D D))), (enc (⟨x159, (), (⟨1, 1⟩ : (Tp2 Int Int))⟩ : (Tp3 D Unit (Tp2 Int Int)))), (enc (⟨x180, (⟨0, 1⟩ : (Tp2 Int Int)), (⟨(-1), 1⟩ : (Tp2 Int Int))⟩ : (Tp3 D (Tp2 Int Int) (Tp2 Int Int)))), (enc (⟨x206, 3, (⟨1, 1⟩ : (Tp2 Int Int))⟩ : (Tp3 D Int (Tp2 Int Int))))] : List D))).map enc) (K := K) (RepL.cat hr228 hr232) (fun p233 B234 H235 s236 r237 => ?_) 
    replace m_state := m_state.step s236 nm0
    replace r119 := r119.mono s236.ex
    replace st := st.go s236 go0
    replace w := s236.ok
    replace r237 : Rep K B234 (.ref p233) (enc (([(enc ()), (.tup ((cutL l1 none (some 2)).map enc) : D), (enc l13), (enc (⟨(⟨0, 1⟩ : (Tp2 Int Int)), x37, x48⟩ : (Tp3 (Tp2 Int Int) D D))), (enc (⟨(⟨2, 2⟩ : (Tp2 Int Int)), x69, x80⟩ : (Tp3 (Tp2 Int Int) D D))), (enc (⟨x96, (⟨1, 0⟩ : (Tp2 Int Int)), (⟨1, 1⟩ : (Tp2 Int Int))⟩ : (Tp3 D (Tp2 Int Int) (Tp2 Int Int))))] : List D) ++ ([(enc (⟨(⟨(-1), 2⟩ : (Tp2 Int Int)), x132, x143⟩ : (Tp3 (Tp2 Int Int) D D))), (enc (⟨x159, (), (⟨1, 1⟩ : (Tp2 Int Int))⟩ : (Tp3 D Unit (Tp2 Int Int)))), (enc (⟨x180, (⟨0, 1⟩ : (Tp2 Int Int)), (⟨(-1), 1⟩ : (Tp2 Int Int))⟩ : (Tp3 D (Tp2 Int Int) (Tp2 Int Int)))), (enc (⟨x206, 3, (⟨1, 1⟩ : (Tp2 Int Int))⟩ : (Tp3 D Int (Tp2 Int Int))))] : List D))) := r237
    refine h_set ?_
    refine h_op ?_
    refine h_var rfl ?_
    refine h_lst ?_
    refine h_cons ?_
    refine h_tup ?_
    refine h_cons ?_
    refine h_tup ?_
    refine h_cons ?_
    refine h_op ?_
    refine h_op (h_c (h_c (h_pow (k := 1000000000000000000000000000000) (by decide +kernel) (by decide +kernel) ?_)))
    refine h_c ?_
    refine h_I0 ?_
    refine h_cons ?_
    refine h_c ?_
    refine h_nil ?_
    refine h_newT w (K := K) (.cons (Rep.int _) (.cons (Rep.int _) .nil)) (fun p238 B239 H240 s241 r242 => ?_) (by show 2 ≤ sizeLine; decide)
    replace m_state := m_state.step s241 nm0
    replace r237 := r237.mono s241.ex
    replace st := st.go s241 go0
    replace w := s241.ok
    replace r242 : Rep K B239 (.ref p238) (enc (⟨(1000000000000000000000000000000 + 1), 1⟩ : (Tp2 Int Int))) := r242
    refine h_cons ?_
    refine h_c ?_
    refine h_cons ?_
    refine h_tup ?_
    refine h_cons ?_
    refine h_c ?_
    refine h_cons ?_
    refine h_c ?_
    refine h_nil ?_
    refine h_newT w (K := K) (.cons (Rep.int _) (.cons (Rep.int _) .nil)) (fun p243 B244 H245 s246 r247 => ?_) (by show 2 ≤ sizeLine; decide)
    replace m_state := m_state.step s246 nm0
    replace r237 := r237.mono s246.ex
    replace r242 := r242.mono s246.ex
    replace st := st.go s246 go0
    replace w := s246.ok
    replace r247 : Rep K B244 (.ref p243) (enc (⟨0, 1⟩ : (Tp2 Int Int))) := r247
    refine h_nil ?_
    refine h_newT w (K := K) (.cons r242 (.cons Rep.non (.cons r247 .nil))) (fun p248 B249 H250 s251 r252 => ?_) (by show 3 ≤ sizeLine; decide)
    replace m_state := m_state.step s251 nm0
    replace r237 := r237.mono s251.ex
    replace st := st.go s251 go0
    replace w := s251.ok
    replace r252 : Rep K B249 (.ref p248) (enc (⟨(⟨(1000000000000000000000000000000 + 1), 1⟩ : (Tp2 Int Int)), (), (⟨0, 1⟩ : (Tp2 Int Int))⟩ : (Tp3 (Tp2 Int Int) Unit (Tp2 Int Int)))) := r252
    refine h_cons ?_
    refine h_tup ?_
    refine h_cons ?_
    refine h_op ?_
    refine h_var rfl ?_
    refine h_c ?_
    obtain ⟨l253, hl254, P⟩ := P.asT
    have rc255 := (r_row.mono st.ex)
    rw [hl254] at rc255
    obtain ⟨p256, xs257, hv, hs258, hr259⟩ := Rep.st w rc255
    cases hv
    obtain ⟨x260, hx261, P⟩ := P.ix
    obtain ⟨u262, hu, r263⟩ := RepL.atE hr259 hx261
    refine h_ixT hs258 hu ?_
    refine h_cons ?_
    refine h_tup ?_
    refine h_cons ?_
    refine h_c ?_
    refine h_cons ?_
    refine h_op ?_
    refine h_op (h_c (h_c (h_pow (k := 1000000000000000000000000000000) (by decide +kernel) (by decide +kernel) ?_)))
    refine h_c ?_
    refine h_I0 ?_
    refine h_nil ?_
    refine h_newT w (K := K) (.cons (Rep.int _) (.cons (Rep.int _) .nil)) (fun p264 B265 H266 s267 r268 => ?_) (by show 2 ≤ sizeLine; decide)
    replace m_state := m_state.step s267 nm0
    replace r237 := r237.mono s267.ex
    replace r252 := r252.mono s267.ex
    replace r263 := r263.mono s267.ex
    replace st := st.go s267 go0
    replace w := s267.ok
    replace r268 : Rep K B265 (.ref p264) (enc (⟨1, (1000000000000000000000000000000 + 1)⟩ : (Tp2 Int Int))) := r268
    refine h_cons ?_
    refine h_tup ?_
    refine h_cons ?_
    refine h_c ?_
    refine h_cons ?_
    refine h_c ?_
    refine h_nil ?_
    refine h_newT w (K := K) (.cons (Rep.int _) (.cons (Rep.int _) .nil)) (fun p269 B270 H271 s272 r273 => ?_) (by show 2 ≤ sizeLine; decide)
    replace m_state := m_state.step s272 nm0
    replace r237 := r237.mono s272.ex
    replace r252 := r252.mono s272.ex
    replace r263 := r263.mono s272.ex
    replace r268 := r268.mono s272.ex
    replace st := st.go s272 go0
    replace w := s272.ok
    replace r273 : Rep K B270 (.ref p269) (enc (⟨1, 1⟩ : (Tp2 Int Int))) := r273
    refine h_nil ?_
    refine h_newT w (K := K) (.cons r263 (.cons r268 (.cons r273 .nil))) (fun p274 B275 H276 s277 r278 => ?_) (by show 3 ≤ sizeLine; decide)
    replace m_state := m_state.step s277 nm0
    replace r237 := r237.mono s277.ex
    replace r252 := r252.mono s277.ex
    replace st := st.go s277 go0
    replace w := s277.ok
    replace r278 : Rep K B275 (.ref p274) (enc (⟨x260, (⟨1, (1000000000000000000000000000000 + 1)⟩ : (Tp2 Int Int)), (⟨1, 1⟩ : (Tp2 Int Int))⟩ : (Tp3 D (Tp2 Int Int) (Tp2 Int Int)))) := r278
    refine h_cons ?_
    refine h_tup ?_
    refine h_cons ?_
    refine h_tup ?_
    refine h_cons ?_
    refine h_op ?_
    refine h_c ?_
    refine h_c ?_
    refine h_eqI ?_
    refine h_cons ?_
    refine h_c ?_
    refine h_nil ?_
    refine h_newT w (K := K) (.cons (Rep.bl _) (.cons (Rep.int _) .nil)) (fun p279 B280 H281 s282 r283 => ?_) (by show 2 ≤ sizeLine; decide)
    replace m_state := m_state.step s282 nm0
    replace r237 := r237.mono s282.ex
    replace r252 := r252.mono s282.ex
    replace r278 := r278.mono s282.ex
    replace st := st.go s282 go0
    replace w := s282.ok
    replace r283 : Rep K B280 (.ref p279) (enc (⟨(decide (1 = 1)), 1⟩ : (Tp2 Bool Int))) := r283
    refine h_cons ?_
    refine h_c ?_
    refine h_cons ?_
    refine h_tup ?_
    refine h_cons ?_
    refine h_c ?_
    refine h_cons ?_
    refine h_c ?_
    refine h_nil ?_
    refine h_newT w (K := K) (.cons (Rep.int _) (.cons (Rep.int _) .nil)) (fun p284 B285 H286 s287 r288 => ?_) (by show 2 ≤ sizeLine; decide)
    replace m_state := m_state.step s287 nm0
    replace r237 := r237.mono s287.ex
    replace r252 := r252.mono s287.ex
    replace r278 := r278.mono s287.ex
    replace r283 := r283.mono s287.ex
    replace st := st.go s287 go0
    replace w := s287.ok
    replace r288 : Rep K B285 (.ref p284) (enc (⟨0, 1⟩ : (Tp2 Int Int))) := r288
    refine h_nil ?_
    refine h_newT w (K := K) (.cons r283 (.cons Rep.non (.cons r288 .nil))) (fun p289 B290 H291 s292 r293 => ?_) (by show 3 ≤ sizeLine; decide)
    replace m_state := m_state.step s292 nm0
    replace r237 := r237.mono s292.ex
    replace r252 := r252.mono s292.ex
    replace r278 := r278.mono s292.ex
    replace st := st.go s292 go0
    replace w := s292.ok
    replace r293 : Rep K B290 (.ref p289) (enc (⟨(⟨(decide (1 = 1)), 1⟩ : (Tp2 Bool Int)), (), (⟨0, 1⟩ : (Tp2 Int Int))⟩ : (Tp3 (Tp2 Bool Int) Unit (Tp2 Int Int)))) := r293
    refine h_nil ?_
    refine h_newL w (ds := (([(enc (⟨(⟨(1000000000000000000000000000000 + 1), 1⟩ : (Tp2 Int Int)), (), (⟨0, 1⟩ : (Tp2 Int Int))⟩ : (Tp3 (Tp2 Int Int) Unit (Tp2 Int Int)))), (enc (⟨x260, (⟨1, (1000000000000000000000000000000 + 1)⟩ : (Tp2 Int Int)), (⟨1, 1⟩ : (Tp2 Int Int))⟩ : (Tp3 D (Tp2 Int Int) (Tp2 Int Int)))), (enc (⟨(⟨(decide (1 = 1)), 1⟩ : (Tp2 Bool Int)), (), (⟨0, 1⟩ : (Tp2 Int Int))⟩ : (Tp3 (Tp2 Bool Int) Unit (Tp2 Int Int))))] : List D)).map enc) (K := K) (.cons r252 (.cons r278 (.cons r293 .nil))) (fun p294 B295 H296 s297 r298 => ?_) (by show 3 ≤ sizeLine; decide)
    replace m_state := m_state.step s297 nm0
    replace r237 := r237.mono s297.ex
    replace st := st.go s297 go0
    replace w := s297.ok
    replace r298 : Rep K B295 (.ref p294) (enc ([(enc (⟨(⟨(1000000000000000000000000000000 + 1), 1⟩ : (Tp2 Int Int)), (), (⟨0, 1⟩ : (Tp2 Int Int))⟩ : (Tp3 (Tp2 Int Int) Unit (Tp2 Int Int)))), (enc (⟨x260, (⟨1, (1000000000000000000000000000000 + 1)⟩ : (Tp2 Int Int)), (⟨1, 1⟩ : (Tp2 Int Int))⟩ : (Tp3 D (Tp2 Int Int) (Tp2 Int Int)))), (enc (⟨(⟨(decide (1 = 1)), 1⟩ : (Tp2 Bool Int)), (), (⟨0, 1⟩ : (Tp2 Int Int))⟩ : (Tp3 (Tp2 Bool Int) Unit (Tp2 Int Int))))] : List D)) := r298
    obtain ⟨p299, xs300, hv, hs301, hr302⟩ := Rep.sq w r237
    cases hv
    obtain ⟨p303, xs304, hv, hs305, hr306⟩ := Rep.sq w r298
    cases hv
    obtain ⟨gd, P⟩ := P.guard
    refine h_cat hs301 hs305 (by have g := gd; simp only [hr302.length, hr306.length, List.length_map] at g ⊢; exact Nat.le_trans g (by decide)) ?_
    refine h_nwL w (ds := (((([(enc ()), (.tup ((cutL l1 none (some 2)).map enc) : D), (enc l13), (enc (⟨(⟨0, 1⟩ : (Tp2 Int Int)), x37, x48⟩ : (Tp3 (Tp2 Int Int) D D))), (enc (⟨(⟨2, 2⟩ : (Tp2 Int Int)), x69, x80⟩ : (Tp3 (Tp2 Int Int) D D))), (enc (⟨x96, (⟨1, 0⟩ : (Tp2 Int Int)), (⟨1, 1⟩ : (Tp2 Int Int))⟩ : (Tp3 D (Tp2 Int Int) (Tp2 Int Int))))] : List D) ++ ([(enc (⟨(⟨(-1), 2⟩ : (Tp2 Int Int)), x132, x143⟩ : (Tp3 (Tp2 Int Int) D D))), (enc (⟨x159, (), (⟨1, 1⟩ : (Tp2 Int Int))⟩ : (Tp3 D Unit (Tp2 Int Int)))), (enc (⟨x180, (⟨0, 1⟩ : (Tp2 Int Int)), (⟨(-1), 1⟩ : (Tp2 Int Int))⟩ : (Tp3 D (Tp2 Int Int) (Tp2 Int Int)))), (enc (⟨x206, 3, (⟨1, 1⟩ : (Tp2 Int Int))⟩ : (Tp3 D Int (Tp2 Int Int))))] : List D)) ++ ([(enc (⟨(⟨(1000000000000000000000000000000 + 1), 1⟩ : (Tp2 Int Int)), (), (⟨0, 1⟩ : (Tp2 Int Int))⟩ : (Tp3 (Tp2 Int Int) Unit (Tp2 Int Int)))), (enc (⟨x260, (⟨1, (1000000000000000000000000000000 + 1)⟩ : (Tp2 Int Int)), (⟨1, 1⟩ : (Tp2 Int Int))⟩ : (Tp3 D (Tp2 Int Int) (Tp2 Int Int)))), (enc (⟨(⟨(decide (1 = 1)), 1⟩ : (Tp2 Bool Int)), (), (⟨0, 1⟩ : (Tp2 Int Int))⟩ : (Tp3 (Tp2 Bool Int) Unit (Tp2 Int Int))))] : List D))).map enc) (K := K) (RepL.cat hr302 hr306) (fun p307 B308 H309 s310 r311 => ?_) 
    replace m_state := m_state.step s310 nm0
    replace r237 := r237.mono s310.ex
    replace st := st.go s310 go0
    replace w := s310.ok
    replace r311 : Rep K B308 (.ref p307) (enc ((([(enc ()), (.tup ((cutL l1 none (some 2)).map enc) : D), (enc l13), (enc (⟨(⟨0, 1⟩ : (Tp2 Int Int)), x37, x48⟩ : (Tp3 (Tp2 Int Int) D D))), (enc (⟨(⟨2, 2⟩ : (Tp2 Int Int)), x69, x80⟩ : (Tp3 (Tp2 Int Int) D D))), (enc (⟨x96, (⟨1, 0⟩ : (Tp2 Int Int)), (⟨1, 1⟩ : (Tp2 Int Int))⟩ : (Tp3 D (Tp2 Int Int) (Tp2 Int Int))))] : List D) ++ ([(enc (⟨(⟨(-1), 2⟩ : (Tp2 Int Int)), x132, x143⟩ : (Tp3 (Tp2 Int Int) D D))), (enc (⟨x159, (), (⟨1, 1⟩ : (Tp2 Int Int))⟩ : (Tp3 D Unit (Tp2 Int Int)))), (enc (⟨x180, (⟨0, 1⟩ : (Tp2 Int Int)), (⟨(-1), 1⟩ : (Tp2 Int Int))⟩ : (Tp3 D (Tp2 Int Int) (Tp2 Int Int)))), (enc (⟨x206, 3, (⟨1, 1⟩ : (Tp2 Int Int))⟩ : (Tp3 D Int (Tp2 Int Int))))] : List D)) ++ ([(enc (⟨(⟨(1000000000000000000000000000000 + 1), 1⟩ : (Tp2 Int Int)), (), (⟨0, 1⟩ : (Tp2 Int Int))⟩ : (Tp3 (Tp2 Int Int) Unit (Tp2 Int Int)))), (enc (⟨x260, (⟨1, (1000000000000000000000000000000 + 1)⟩ : (Tp2 Int Int)), (⟨1, 1⟩ : (Tp2 Int Int))⟩ : (Tp3 D (Tp2 Int Int) (Tp2 Int Int)))), (enc (⟨(⟨(decide (1 = 1)), 1⟩ : (Tp2 Bool Int)), (), (⟨0, 1⟩ : (Tp2 Int Int))⟩ : (Tp3 (Tp2 Bool Int) Unit (Tp2 Int Int))))] : List D))) := r311
    refine h_ret ?_
    refine h_op ?_
    refine h_var rfl ?_
    refine h_call ?_
    refine h_cons ?_
    refine h_var rfl ?_
    refine h_cons ?_
    refine h_cb ?_
    refine h_cons ?_
    refine h_var rfl ?_
    refine h_nil ?_
    obtain ⟨p312, xs313, hv, hs314, hr315⟩ := Rep.sq w r311
    cases hv
    refine h_len hs314 hr315 ?_
    refine h_nil ?_
    refine ⟨B308, p_state, a_state, (((([(enc ()), (.tup ((cutL l1 none (some 2)).map enc) : D), (enc l13), (enc (⟨(⟨0, 1⟩ : (Tp2 Int Int)), x37, x48⟩ : (Tp3 (Tp2 Int Int) D D))), (enc (⟨(⟨2, 2⟩ : (Tp2 Int Int)), x69, x80⟩ : (Tp3 (Tp2 Int Int) D D))), (enc (⟨x96, (⟨1, 0⟩ : (Tp2 Int Int)), (⟨1, 1⟩ : (Tp2 Int Int))⟩ : (Tp3 D (Tp2 Int Int) (Tp2 Int Int))))] : List D) ++ ([(enc (⟨(⟨(-1), 2⟩ : (Tp2 Int Int)), x132, x143⟩ : (Tp3 (Tp2 Int Int) D D))), (enc (⟨x159, (), (⟨1, 1⟩ : (Tp2 Int Int))⟩ : (Tp3 D Unit (Tp2 Int Int)))), (enc (⟨x180, (⟨0, 1⟩ : (Tp2 Int Int)), (⟨(-1), 1⟩ : (Tp2 Int Int))⟩ : (Tp3 D (Tp2 Int Int) (Tp2 Int Int)))), (enc (⟨x206, 3, (⟨1, 1⟩ : (Tp2 Int Int))⟩ : (Tp3 D Int (Tp2 Int Int))))] : List D)) ++ ([(enc (⟨(⟨(1000000000000000000000000000000 + 1), 1⟩ : (Tp2 Int Int)), (), (⟨0, 1⟩ : (Tp2 Int Int))⟩ : (Tp3 (Tp2 Int Int) Unit (Tp2 Int Int)))), (enc (⟨x260, (⟨1, (1000000000000000000000000000000 + 1)⟩ : (Tp2 Int Int)), (⟨1, 1⟩ : (Tp2 Int Int))⟩ : (Tp3 D (Tp2 Int Int) (Tp2 Int Int)))), (enc (⟨(⟨(decide (1 = 1)), 1⟩ : (Tp2 Bool Int)), (), (⟨0, 1⟩ : (Tp2 Int Int))⟩ : (Tp3 (Tp2 Bool Int) Unit (Tp2 Int Int))))] : List D)).length : Int), w, rfl, m_state, (P.bind).mono (fun x316 P => ?_) (fun _ z => z)⟩
    refine fun v320 B317 H318 s319 m_state r321 => ?_
    replace r311 := r311.mono s319.ex
    replace st := st.go s319 (go1 (.inl (by simp)))
    replace w := s319.ok
    cases r321
    obtain ⟨p322, xs323, hv, hs324, hr325⟩ := Rep.sq w r311
    cases hv
    obtain ⟨x326, hx327, P⟩ := P.ix
    obtain ⟨u328, hu, r329⟩ := RepL.atE hr325 hx327
    refine h_ixL hs324 hu ?_
    exact P.ok _ _ _ st m_state r329
theorem ok__law_no_lane {f : Addr} {fd : FuncData}  (F : Fun K "_law_no_lane" "_law_no_lane" s__law_no_lane f fd) {f__law_digit : Addr} {d__law_digit : FuncData} (g__law_digit : mg "_law_digit" = some (.ref f__law_digit)) (k__law_digit : PySem.W.keepIn K (.ref f__law_digit) = true) (b__law_digit : L2.Binds K d__law_digit ["_law_state", "_law_base"] []) (G__law_digit : FnOk Pr wo K mg base CX0 1 f__law_digit d__law_digit ["_law_state", "_law_base"] (sp__law_digit K)) {f__law_no_edit : Addr} {d__law_no_edit : FuncData} (g__law_no_edit : mg "_law_no_edit" = some (.ref f__law_no_edit)) (k__law_no_edit : PySem.W.keepIn K (.ref f__law_no_edit) = true) (b__law_no_edit : L2.Binds K d__law_no_edit ["_law_state", "_law_row"] []) (G__law_no_edit : FnOk Pr wo K mg base CX0 2 f__law_no_edit d__law_no_edit ["_law_state", "_law_row"] (sp__law_no_edit K)) (bI_tuple : mg "tuple" = none) : FnOk Pr wo K mg base CX0 3 f fd ["_law_state", "_law_lane"] (sp__law_no_lane K) := by
  refine F.ok sc__law_no_lane (fun vs H Q E h => ?_) (fun cdv A outer s H0 vs Q E hr h => ?_)
  · obtain ⟨_, _, _, _, _, _, rfl, _⟩ := h; rfl
  · obtain ⟨B0, p_state, a_state, v_lane, a_lane, w, rfl, m_state, r_lane, P⟩ := h
    have w0 := w
    have hu := hu_of hr
    have hu64 := hu64_of hr
    have hu65 := hu65_of hr
    have hr1 : Room 1 _ := hr.mono (by decide)
    have hr2 : Room 2 _ := hr.mono (by decide)
    refine ⟨_, (pss_cons (ps_asg (pv 1) (pg_tupK (K := K) (n := 3) rfl rfl (pgs_cons (pg_name (i := 2) sc__law_no_lane.nd rfl (by first | exact Or.inl rfl | exact Or.inr rfl)) (pgs_cons (pg_name (i := 3) sc__law_no_lane.nd rfl (by first | exact Or.inl rfl | exact Or.inr rfl)) (pgs_cons (pg_name (i := 4) sc__law_no_lane.nd rfl (by first | exact Or.inl rfl | exact Or.inr rfl)) pgs_nil)))))
      (pss_cons (ps_set (i := 5) sc__law_no_lane.nd rfl (by first | exact Or.inl rfl | exact Or.inr rfl) (pe_call G__law_digit hr1 rfl g__law_digit k__law_digit b__law_digit .nil pass0 (pa_cons (pv 0) (pa_cons pe_int pa_nil))))
      (pss_cons (ps_if (pt_cmpR op_eq (pv 5) pe_int (nomark _)) (pss_one (ps_ret (pe_tup (pa_cons (pv 2) (pa_cons (pv 3) (pa_cons (pe_op (r := rCatQ K) op_catQ (pv 4) (pe_lst (pa_cons (pe_call G__law_no_edit hr2 rfl g__law_no_edit k__law_no_edit b__law_no_edit .nil pass0 (pa_cons (pv 0) (pa_cons (pe_tup (pa_cons (pe_tup (pa_cons pe_int (pa_cons pe_int pa_nil))) (pa_cons (pe_tup (pa_cons pe_int (pa_cons pe_int pa_nil))) (pa_cons (pe_tup (pa_cons pe_int (pa_cons pe_int pa_nil))) pa_nil)))) pa_nil))) pa_nil))) pa_nil)))))) pss_nil)
      (pss_cons (ps_if (pt_cmpR op_eq (pv 5) pe_int (nomark _)) (pss_one (ps_ret (pe_tup (pa_cons (pe_ix (r := rIxL K) ix_list (pe_lst (pa_cons pe_int (pa_cons (pe_op op_add (pe_op op_pow pe_int pe_int) pe_int) (pa_cons (pe_un un_neg pe_int) (pa_cons pe_non (pa_cons (pe_cmpR op_eq pe_int pe_int (nomark _)) (pa_cons pe_str (pa_cons (pe_tup (pa_cons pe_int (pa_cons pe_int pa_nil))) pa_nil)))))))) (pe_call G__law_digit hr1 rfl g__law_digit k__law_digit b__law_digit .nil pass0 (pa_cons (pv 0) (pa_cons pe_int pa_nil))) (fun _ _ => rfl)) (pa_cons (pv 3) (pa_cons (pv 4) pa_nil)))))) pss_nil)
      (pss_cons (ps_if (pt_cmpR op_eq (pv 5) pe_int (nomark _)) (pss_one (ps_ret (pe_tup (pa_cons (pv 2) (pa_cons (pe_ix (r := rIxL K) ix_list (pe_lst (pa_cons pe_int (pa_cons (pe_un un_neg pe_int) (pa_cons pe_non (pa_cons (pe_cmpR op_eq pe_int pe_int (nomark _)) (pa_cons pe_str (pa_cons (pe_lst (pa_cons pe_int pa_nil)) pa_nil))))))) (pe_call G__law_digit hr1 rfl g__law_digit k__law_digit b__law_digit .nil pass0 (pa_cons (pv 0) (pa_cons pe_int pa_nil))) (fun _ _ => rfl)) (pa_cons (pv 4) pa_nil)))))) pss_nil)
      (pss_cons (ps_if (pt_cmpR op_eq (pv 5) pe_int (nomark _)) (pss_one (ps_ret (pe_tup (pa_cons (pv 2) (pa_cons (pv 3) (pa_cons (pe_ix (r := rIxL K) ix_list (pe_lst (pa_cons pe_non (pa_cons (pe_callTy (r := rTupY K) cr_tuple (by rfl) bI_tuple Y.boot_tuple (pa_cons (pv 4) pa_nil)) (pa_cons pe_dnewK (pa_cons pe_str (pa_cons pe_int (pa_cons (pe_op (r := rRepQ K) op_repQ (pe_lst (pa_cons (pe_tup (pa_cons (pe_tup (pa_cons pe_int (pa_cons pe_int pa_nil))) (pa_cons pe_non (pa_cons (pe_tup (pa_cons pe_int (pa_cons pe_int pa_nil))) pa_nil)))) pa_nil)) pe_int) pa_nil))))))) (pe_call G__law_digit hr1 rfl g__law_digit k__law_digit b__law_digit .nil pass0 (pa_cons (pv 0) (pa_cons pe_int pa_nil))) (fun _ _ => rfl)) pa_nil)))))) pss_nil)
      (pss_one (ps_ret (pe_ix (r := rIxL K) ix_list (pe_lst (pa_cons pe_non (pa_cons (pe_lst (pa_cons (pv 2) (pa_cons (pv 3) (pa_cons (pv 4) pa_nil)))) (pa_cons (pe_tup (pa_cons (pv 2) (pa_cons (pv 3) pa_nil))) (pa_cons (pe_tup (pa_cons (pv 2) (pa_cons (pv 3) (pa_cons (pv 4) (pa_cons pe_int pa_nil))))) (pa_cons (pe_tup pa_nil) (pa_cons pe_str pa_nil))))))) (pe_call G__law_digit hr1 rfl g__law_digit k__law_digit b__law_digit .nil pass0 (pa_cons (pv 0) (pa_cons pe_int pa_nil))) (fun _ _ => rfl)))))))))), ?_⟩
    unfold l_no_lane at P
    have st := Stp.refl (W := [p_state]) w
    refine h_seq ?_
    refine h_asg ?_
    refine h_var rfl ?_
    obtain ⟨p1, xs2, rfl, hs3, hr4⟩ := Rep.st w (r_lane.mono st.ex)
    obtain ⟨u5, u7, u9, rfl, r6, r8, r10⟩ := RepL.open3 hr4
    refine h_tupG hs3 rfl ?_
    refine h_gcons ?_
    refine h_gname ?_
    cases r6
    refine h_gcons ?_
    refine h_gname ?_
    cases r8
    refine h_gcons ?_
    refine h_gname ?_
    refine h_gnil ?_
    refine h_nx ?_
    refine h_set ?_
    refine h_call ?_
    refine h_cons ?_
    refine h_var rfl ?_
    refine h_cons ?_
    refine h_c ?_
    refine h_nil ?_
    refine ⟨B0, p_state, a_state, 5, w, rfl, m_state, (P.bind).mono (fun x11 P => ?_) (fun _ z => z)⟩
    refine fun v15 B12 H13 s14 m_state r16 => ?_
    replace r10 := r10.mono s14.ex
    replace st := st.go s14 (go1 (.inl (by simp)))
    replace w := s14.ok
    cases r16
    refine h_seq <| h_if ?_
    refine h_test ?_
    refine h_op ?_
    refine h_var rfl ?_
    refine h_c ?_
    refine h_eqI ?_
    refine h_bl ?_
    refine h_ite (fun c1 => ?_) (fun c1 => ?_)
    · replace P := P.iteT c1
      refine h_ret ?_
      refine h_tup ?_
      refine h_cons ?_
      refine h_var rfl ?_
      refine h_cons ?_
      refine h_var rfl ?_
      refine h_cons ?_
      refine h_op ?_
      refine h_var rfl ?_
      refine h_lst ?_
      refine h_cons ?_
      refine h_call ?_
      refine h_cons ?_
      refine h_var rfl ?_
      refine h_cons ?_
      refine h_tup ?_
      refine h_cons ?_
      refine h_tup ?_
      refine h_cons ?_
      refine h_c ?_
      refine h_cons ?_
      refine h_c ?_
      refine h_nil ?_
      refine h_newT w (K := K) (.cons (Rep.int _) (.cons (Rep.int _) .nil)) (fun p17 B18 H19 s20 r21 => ?_) (by show 2 ≤ sizeLine; decide)
      replace m_state := m_state.step s20 nm0
      replace r10 := r10.mono s20.ex
      replace st := st.go s20 go0
      replace w := s20.ok
      replace r21 : Rep K B18 (.ref p17) (enc (⟨1, 2⟩ : (Tp2 Int Int))) := r21
      refine h_cons ?_
      refine h_tup ?_
      refine h_cons ?_
      refine h_c ?_
      refine h_cons ?_
      refine h_c ?_
      refine h_nil ?_
      refine h_newT w (K := K) (.cons (Rep.int _) (.cons (Rep.int _) .nil)) (fun p22 B23 H24 s25 r26 => ?_) (by show 2 ≤ sizeLine; decide)
      replace m_state := m_state.step s25 nm0
      replace r10 := r10.mono s25.ex
      replace r21 := r21.mono s25.ex
      replace st := st.go s25 go0
      replace w := s25.ok
      replace r26 : Rep K B23 (.ref p22) (enc (⟨0, 1⟩ : (Tp2 Int Int))) := r26
      refine h_cons ?_
      refine h_tup ?_
      refine h_cons ?_
      refine h_c ?_
      refine h_cons ?_
      refine h_c ?_
      refine h_nil ?_
      refine h_newT w (K := K) (.cons (Rep.int _) (.cons (Rep.int _) .nil)) (fun p27 B28 H29 s30 r31 => ?_) (by show 2 ≤ sizeLine; decide)
      replace m_state := m_state.step s30 nm0
      replace r10 := r10.mono s30.ex
      replace r21 := r21.mono s30.ex
      replace r26 := r26.mono s30.ex
      replace st := st.go s30 go0
      replace w := s30.ok
      replace r31 : Rep K B28 (.ref p27) (enc (⟨1, 1⟩ : (Tp2 Int Int))) := r31
      refine h_nil ?_
      refine h_newT w (K := K) (.cons r21 (.cons r26 (.cons r31 .nil))) (fun p32 B33 H34 s35 r36 => ?_) (by show 3 ≤ sizeLine; decide)
      replace m_state := m_state.step s35 nm0
      replace r10 := r10.mono s35.ex
      replace st := st.go s35 go0
      replace w := s35.ok
      replace r36 : Rep K B33 (.ref p32) (enc (⟨(⟨1, 2⟩ : (Tp2 Int Int)), (⟨0, 1⟩ : (Tp2 Int Int)), (⟨1, 1⟩ : (Tp2 Int Int))⟩ : (Tp3 (Tp2 Int Int) (Tp2 Int Int) (Tp2 Int Int)))) := r36
      refine h_nil ?_
      refine ⟨B33, p_state, x11.2, (.ref p32), (enc (⟨(⟨1, 2⟩ : (Tp2 Int Int)), (⟨0, 1⟩ : (Tp2 Int Int)), (⟨1, 1⟩ : (Tp2 Int Int))⟩ : (Tp3 (Tp2 Int Int) (Tp2 Int Int) (Tp2 Int Int)))), w, rfl, m_state, r36, (P.bind).mono (fun x37 P => ?_) (fun _ z => z)⟩
      refine fun v41 B38 H39 s40 m_state r42 => ?_
      replace r10 := r10.mono s40.ex
      replace r36 := r36.mono s40.ex
      replace st := st.go s40 (go1 (.inl (by simp)))
      replace w := s40.ok
      refine h_nil ?_
      refine h_newL w (ds := (([x37.1] : List D)).map enc) (K := K) (.cons r42 .nil) (fun p43 B44 H45 s46 r47 => ?_) (by show 1 ≤ sizeLine; decide)
      replace m_state := m_state.step s46 nm0
      replace r10 := r10.mono s46.ex
      replace st := st.go s46 go0
      replace w := s46.ok
      replace r47 : Rep K B44 (.ref p43) (enc ([x37.1] : List D)) := r47
      obtain ⟨p48, xs49, rfl, hs50, hr51⟩ := Rep.sq w r10
      obtain ⟨p52, xs53, hv, hs54, hr55⟩ := Rep.sq w r47
      cases hv
      replace hr51 := hr51.toD
      obtain ⟨gd, P⟩ := P.guard
      refine h_cat hs50 hs54 (by have g := gd; simp only [hr51.length, hr55.length, List.length_map] at g ⊢; exact Nat.le_trans g (by decide)) ?_
      refine h_nwL w (ds := (((a_lane.c.map enc : List D) ++ ([x37.1] : List D))).map enc) (K := K) (RepL.cat hr51 hr55) (fun p56 B57 H58 s59 r60 => ?_) 
      replace m_state := m_state.step s59 nm0
      replace r10 := r10.mono s59.ex
      replace st := st.go s59 go0
      replace w := s59.ok
      replace r60 : Rep K B57 (.ref p56) (enc ((a_lane.c.map enc : List D) ++ ([x37.1] : List D))) := r60
      refine h_nil ?_
      refine h_newT w (K := K) (.cons (Rep.int _) (.cons (Rep.int _) (.cons r60 .nil))) (fun p61 B62 H63 s64 r65 => ?_) (by show 3 ≤ sizeLine; decide)
      replace m_state := m_state.step s64 nm0
      replace r10 := r10.mono s64.ex
      replace st := st.go s64 go0
      replace w := s64.ok
      replace r65 : Rep K B62 (.ref p61) (enc (⟨a_lane.a, a_lane.b, ((a_lane.c.map enc : List D) ++ ([x37.1] : List D))⟩ : (Tp3 Int Int (List D)))) := r65
      exact P.ok _ _ _ st m_state r65
    · replace P := P.iteF c1
      refine h_next ?_
      refine h_nx ?_
      refine h_seq <| h_if ?_
      refine h_test ?_
      refine h_op ?_
      refine h_var rfl ?_
      refine h_c ?_
      refine h_eqI ?_
      refine h_bl ?_
      refine h_ite (fun c1 => ?_) (fun c1 => ?_)
      · replace P := P.iteT c1
        refine h_ret ?_
        refine h_tup ?_
        refine h_cons ?_
        refine h_op ?_
        refine h_lst ?_
        refine h_cons ?_
        refine h_c ?_
        refine h_cons ?_
        refine h_op ?_
        refine h_op (h_c (h_c (h_pow (k := 1000000) (by decide +kernel) (by decide +kernel) ?_)))
        refine h_c ?_
        refine h_I0 ?_
        refine h_cons ?_
        refine h_un ?_
        refine h_c ?_
        refine h_U ?_
        refine h_cons ?_
        refine h_c ?_
        refine h_cons ?_
        refine h_op ?_
        refine h_c ?_
        refine h_c ?_
        refine h_eqI ?_
        refine h_cons ?_
        refine h_c ?_
        refine h_cons ?_
        refine h_tup ?_
        refine h_cons ?_
        refine h_c ?_
        refine h_cons ?_
        refine h_c ?_
        refine h_nil ?_
        refine h_newT w (K := K) (.cons (Rep.int _) (.cons (Rep.int _) .nil)) (fun p66 B67 H68 s69 r70 => ?_) (by show 2 ≤ sizeLine; decide)
        replace m_state := m_state.step s69 nm0
        replace r10 := r10.mono s69.ex
        replace st := st.go s69 go0
        replace w := s69.ok
        replace r70 : Rep K B67 (.ref p66) (enc (⟨1, 1⟩ : (Tp2 Int Int))) := r70
        refine h_nil ?_
        refine h_newL w (ds := (([(enc (0 : Int)), (enc ((1000000 + 1) : Int)), (enc ((-1) : Int)), (enc ()), (enc (decide (1 = 1))), (enc ("1" : Str)), (enc (⟨1, 1⟩ : (Tp2 Int Int)))] : List D)).map enc) (K := K) (.cons (Rep.int _) (.cons (Rep.int _) (.cons (Rep.int _) (.cons Rep.non (.cons (Rep.bl _) (.cons (Rep.str _) (.cons r70 .nil))))))) (fun p71 B72 H73 s74 r75 => ?_) (by show 7 ≤ sizeLine; decide)
        replace m_state := m_state.step s74 nm0
        replace r10 := r10.mono s74.ex
        replace st := st.go s74 go0
        replace w := s74.ok
        replace r75 : Rep K B72 (.ref p71) (enc ([(enc (0 : Int)), (enc ((1000000 + 1) : Int)), (enc ((-1) : Int)), (enc ()), (enc (decide (1 = 1))), (enc ("1" : Str)), (enc (⟨1, 1⟩ : (Tp2 Int Int)))] : List D)) := r75
        refine h_call ?_
        refine h_cons ?_
        refine h_var rfl ?_
        refine h_cons ?_
        refine h_c ?_
        refine h_nil ?_
        refine ⟨B72, p_state, x11.2, 7, w, rfl, m_state, (P.bind).mono (fun x76 P => ?_) (fun _ z => z)⟩
        refine fun v80 B77 H78 s79 m_state r81 => ?_
        replace r10 := r10.mono s79.ex
        replace r75 := r75.mono s79.ex
        replace st := st.go s79 (go1 (.inl (by simp)))
        replace w := s79.ok
        cases r81
        obtain ⟨p82, xs83, hv, hs84, hr85⟩ := Rep.sq w r75
        cases hv
        obtain ⟨x86, hx87, P⟩ := P.ix
        obtain ⟨u88, hu, r89⟩ := RepL.atE hr85 hx87
        refine h_ixL hs84 hu ?_
        refine h_cons ?_
        refine h_var rfl ?_
        refine h_cons ?_
        refine h_var rfl ?_
        refine h_nil ?_
        refine h_newT w (K := K) (.cons r89 (.cons (Rep.int _) (.cons r10 .nil))) (fun p90 B91 H92 s93 r94 => ?_) (by show 3 ≤ sizeLine; decide)
        replace m_state := m_state.step s93 nm0
        replace r10 := r10.mono s93.ex
        replace st := st.go s93 go0
        replace w := s93.ok
        replace r94 : Rep K B91 (.ref p90) (enc (⟨x86, a_lane.b, a_lane.c⟩ : (Tp3 D Int (List (Tp3 (Tp2 Int Int) (Option (Tp2 Int Int)) (Tp2 Int Int)))))) := r94
        exact P.ok _ _ _ st m_state r94
      · replace P := P.iteF c1
        refine h_next ?_
        refine h_nx ?_
        refine h_seq <| h_if ?_
        refine h_test ?_
        refine h_op ?_
        refine h_var rfl ?_
        refine h_c ?_
        refine h_eqI ?_
        refine h_bl ?_
        refine h_ite (fun c1 => ?_) (fun c1 => ?_)
        · replace P := P.iteT c1
          refine h_ret ?_
          refine h_tup ?_
          refine h_cons ?_
          refine h_var rfl ?_
          refine h_cons ?_
          refine h_op ?_
          refine h_lst ?_
          refine h_cons ?_
          refine h_c ?_
          refine h_cons ?_
          refine h_un ?_
          refine h_c ?_
          refine h_U ?_
          refine h_cons ?_
          refine h_c ?_
          refine h_cons ?_
          refine h_op ?_
          refine h_c ?_
          refine h_c ?_
          refine h_eqI ?_
          refine h_cons ?_
          refine h_c ?_
          refine h_cons ?_
          refine h_lst ?_
          refine h_cons ?_
          refine h_c ?_
          refine h_nil ?_
          refine h_newL w (ds := (([1] : List Int)).map enc) (K := K) (.cons (Rep.int _) .nil) (fun p95 B96 H97 s98 r99 => ?_) (by show 1 ≤ sizeLine; decide)
          replace m_state := m_state.step s98 nm0
          replace r10 := r10.mono s98.ex
          replace st := st.go s98 go0
          replace w := s98.ok
          replace r99 : Rep K B96 (.ref p95) (enc ([1] : List Int)) := r99
          refine h_nil ?_
          refine h_newL w (ds := (([(enc (201 : Int)), (enc ((-1) : Int)), (enc ()), (enc (decide (1 = 1))), (enc ("1" : Str)), (enc ([1] : List Int))] : List D)).map enc) (K := K) (.cons (Rep.int _) (.cons (Rep.int _) (.cons Rep.non (.cons (Rep.bl _) (.cons (Rep.str _) (.cons r99 .nil)))))) (fun p100 B101 H102 s103 r104 => ?_) (by show 6 ≤ sizeLine; decide)
          replace m_state := m_state.step s103 nm0
          replace r10 := r10.mono s103.ex
          replace st := st.go s103 go0
          replace w := s103.ok
          replace r104 : Rep K B101 (.ref p100) (enc ([(enc (201 : Int)), (enc ((-1) : Int)), (enc ()), (enc (decide (1 = 1))), (enc ("1" : Str)), (enc ([1] : List Int))] : List D)) := r104
          refine h_call ?_
          refine h_cons ?_
          refine h_var rfl ?_
          refine h_cons ?_
          refine h_c ?_
          refine h_nil ?_
          refine ⟨B101, p_state, x11.2, 6, w, rfl, m_state, (P.bind).mono (fun x105 P => ?_) (fun _ z => z)⟩
          refine fun v109 B106 H107 s108 m_state r110 => ?_
          replace r10 := r10.mono s108.ex
          replace r104 := r104.mono s108.ex
          replace st := st.go s108 (go1 (.inl (by simp)))
          replace w := s108.ok
          cases r110
          obtain ⟨p111, xs112, hv, hs113, hr114⟩ := Rep.sq w r104
          cases hv
          obtain ⟨x115, hx116, P⟩ := P.ix
          obtain ⟨u117, hu, r118⟩ := RepL.atE hr114 hx116
          refine h_ixL hs113 hu ?_
          refine h_cons ?_
          refine h_var rfl ?_
          refine h_nil ?_
          refine h_newT w (K := K) (.cons (Rep.int _) (.cons r118 (.cons r10 .nil))) (fun p119 B120 H121 s122 r123 => ?_) (by show 3 ≤ sizeLine; decide)
          replace m_state := m_state.step s122 nm0
          replace r10 := r10.mono s122.ex
          replace st := st.go s122 go0
          replace w := s122.ok
          replace r123 : Rep K B120 (.ref p119) (enc (⟨a_lane.a, x115, a_lane.c⟩ : (Tp3 Int D (List (Tp3 (Tp2 Int Int) (Option (Tp2 Int Int)) (Tp2 Int Int)))))) := r123
          exact P.ok _ _ _ st m_state r123
        · replace P := P.iteF c1
          refine h_next ?_
          refine h_nx ?_
          refine h_seq <| h_if ?_
          refine h_test ?_
          refine h_op ?_
          refine h_var rfl ?_
          refine h_c ?_
          refine h_eqI ?_
          refine h_bl ?_
          refine h_ite (fun c1 => ?_) (fun c1 => ?_)
          · replace P := P.iteT c1
            refine h_ret ?_
            refine h_tup ?_
            refine h_cons ?_
            refine h_var rfl ?_
            refine h_cons ?_
            refine h_var rfl ?_
            refine h_cons ?_
            refine h_op ?_
            refine h_lst ?_
            refine h_cons ?_
            refine h_c ?_
            refine h_cons ?_
            refine h_cb ?_
            refine h_cons ?_
            refine h_var rfl ?_
            refine h_nil ?_
            obtain ⟨p124, xs125, rfl, hs126, hr127⟩ := Rep.sq w r10
            refine h_tupL hs126 (h_nwT w (K := K) hr127 (fun p128 B129 H130 s131 r132 => ?_))
            replace m_state := m_state.step s131 nm0
            replace r10 := r10.mono s131.ex
            replace st := st.go s131 go0
            replace w := s131.ok
            refine h_cons ?_
            refine h_dnew w (K := K) (fun p133 B134 H135 s136 r137 => ?_)
            replace m_state := m_state.step s136 nm0
            replace r10 := r10.mono s136.ex
            replace r132 := r132.mono s136.ex
            replace st := st.go s136 go0
            replace w := s136.ok
            refine h_cons ?_
            refine h_c ?_
            refine h_cons ?_
            refine h_c ?_
            refine h_cons ?_
            refine h_op ?_
            refine h_lst ?_
            refine h_cons ?_
            refine h_tup ?_
            refine h_cons ?_
            refine h_tup ?_
            refine h_cons ?_
            refine h_c ?_
            refine h_cons ?_
            refine h_c ?_
            refine h_nil ?_
            refine h_newT w (K := K) (.cons (Rep.int _) (.cons (Rep.int _) .nil)) (fun p138 B139 H140 s141 r142 => ?_) (by show 2 ≤ sizeLine; decide)
            replace m_state := m_state.step s141 nm0
            replace r10 := r10.mono s141.ex
            replace r132 := r132.mono s141.ex
            replace r137 := r137.mono s141.ex
            replace st := st.go s141 go0
            replace w := s141.ok
            replace r142 : Rep K B139 (.ref p138) (enc (⟨1, 1⟩ : (Tp2 Int Int))) := r142
            refine h_cons ?_
            refine h_c ?_
            refine h_cons ?_
            refine h_tup ?_
            refine h_cons ?_
            refine h_c ?_
            refine h_cons ?_
            refine h_c ?_
            refine h_nil ?_
            refine h_newT w (K := K) (.cons (Rep.int _) (.cons (Rep.int _) .nil)) (fun p143 B144 H145 s146 r147 => ?_) (by show 2 ≤ sizeLine; decide)
            replace m_state := m_state.step s146 nm0
            replace r10 := r10.mono s146.ex
            replace r132 := r132.mono s146.ex
            replace r137 := r137.mono s146.ex
            replace r142 := r142.mono s146.ex
            replace st := st.go s146 go0
            replace w := s146.ok
            replace r147 : Rep K B144 (.ref p143) (enc (⟨0, 1⟩ : (Tp2 Int Int))) := r147
            refine h_nil ?_
            refine h_newT w (K := K) (.cons r142 (.cons Rep.non (.cons r147 .nil))) (fun p148 B149 H150 s151 r152 => ?_) (by show 3 ≤ sizeLine; decide)
            replace m_state := m_state.step s151 nm0
            replace r10 := r10.mono s151.ex
            replace r132 := r132.mono s151.ex
            replace r137 := r137.mono s151.ex
            replace st := st.go s151 go0
            replace w := s151.ok
            replace r152 : Rep K B149 (.ref p148) (enc (⟨(⟨1, 1⟩ : (Tp2 Int Int)), (), (⟨0, 1⟩ : (Tp2 Int Int))⟩ : (Tp3 (Tp2 Int Int) Unit (Tp2 Int Int)))) := r152
            refine h_nil ?_
            refine h_newL w (ds := (([(⟨(⟨1, 1⟩ : (Tp2 Int Int)), (), (⟨0, 1⟩ : (Tp2 Int Int))⟩ : (Tp3 (Tp2 Int Int) Unit (Tp2 Int Int)))] : List (Tp3 (Tp2 Int Int) Unit (Tp2 Int Int)))).map enc) (K := K) (.cons r152 .nil) (fun p153 B154 H155 s156 r157 => ?_) (by show 1 ≤ sizeLine; decide)
            replace m_state := m_state.step s156 nm0
            replace r10 := r10.mono s156.ex
            replace r132 := r132.mono s156.ex
            replace r137 := r137.mono s156.ex
            replace st := st.go s156 go0
            replace w := s156.ok
            replace r157 : Rep K B154 (.ref p153) (enc ([(⟨(⟨1, 1⟩ : (Tp2 Int Int)), (), (⟨0, 1⟩ : (Tp2 Int Int))⟩ : (Tp3 (Tp2 Int Int) Unit (Tp2 Int Int)))] : List (Tp3 (Tp2 Int Int) Unit (Tp2 Int Int)))) := r157
            refine h_c ?_
            obtain ⟨p158, xs159, hv, hs160, hr161⟩ := Rep.sq w r157
            cases hv
            obtain ⟨gd, P⟩ := P.guard
            refine h_repQ hs160 (hr161.length.trans (List.length_map ..)) gd ?_
            refine h_nwL w (ds := ((timesL ([(⟨(⟨1, 1⟩ : (Tp2 Int Int)), (), (⟨0, 1⟩ : (Tp2 Int Int))⟩ : (Tp3 (Tp2 Int Int) Unit (Tp2 Int Int)))] : List (Tp3 (Tp2 Int Int) Unit (Tp2 Int Int))) 61)).map enc) (K := K) (RepL.times hr161 61) (fun p162 B163 H164 s165 r166 => ?_) 
            replace m_state := m_state.step s165 nm0
            replace r10 := r10.mono s165.ex
            replace r132 := r132.mono s165.ex
            replace r137 := r137.mono s165.ex
            replace st := st.go s165 go0
            replace w := s165.ok
            replace r166 : Rep K B163 (.ref p162) (enc (timesL ([(⟨(⟨1, 1⟩ : (Tp2 Int Int)), (), (⟨0, 1⟩ : (Tp2 Int Int))⟩ : (Tp3 (Tp2 Int Int) Unit (Tp2 Int Int)))] : List (Tp3 (Tp2 Int Int) Unit (Tp2 Int Int))) 61)) := r166
            refine h_nil ?_
            refine h_newL w (ds := (([(enc ()), (.tup (a_lane.c.map enc) : D), (.dic [] : D), (enc ("" : Str)), (enc (0 : Int)), (enc (timesL ([(⟨(⟨1, 1⟩ : (Tp2 Int Int)), (), (⟨0, 1⟩ : (Tp2 Int Int))⟩ : (Tp3 (Tp2 Int Int) Unit (Tp2 Int Int)))] : List (Tp3 (Tp2 Int Int) Unit (Tp2 Int Int))) 61))] : List D)).map enc) (K := K) (.cons Rep.non (.cons r132 (.cons r137 (.cons (Rep.str _) (.cons (Rep.int _) (.cons r166 .nil)))))) (fun p167 B168 H169 s170 r171 => ?_) (by show 6 ≤ sizeLine; decide)
            replace m_state := m_state.step s170 nm0
            replace r10 := r10.mono s170.ex
            replace st := st.go s170 go0
            replace w := s170.ok
            replace r171 : Rep K B168 (.ref p167) (enc ([(enc ()), (.tup (a_lane.c.map enc) : D), (.dic [] : D), (enc ("" : Str)), (enc (0 : Int)), (enc (timesL ([(⟨(⟨1, 1⟩ : (Tp2 Int Int)), (), (⟨0, 1⟩ : (Tp2 Int Int))⟩ : (Tp3 (Tp2 Int Int) Unit (Tp2 Int Int)))] : List (Tp3 (Tp2 Int Int) Unit (Tp2 Int Int))) 61))] : List D)) := r171
            refine h_call ?_
            refine h_cons ?_
            refine h_var rfl ?_
            refine h_cons ?_
            refine h_c ?_
            refine h_nil ?_
            refine ⟨B168, p_state, x11.2, 6, w, rfl, m_state, (P.bind).mono (fun x172 P => ?_) (fun _ z => z)⟩
            refine fun v176 B173 H174 s175 m_state r177 => ?_
            replace r10 := r10.mono s175.ex
            replace r171 := r171.mono s175.ex
            replace st := st.go s175 (go1 (.inl (by simp)))
            replace w := s175.ok
            cases r177
            obtain ⟨p178, xs179, hv, hs180, hr181⟩ := Rep.sq w r171
            cases hv
            obtain ⟨x182, hx183, P⟩ := P.ix
            obtain ⟨u184, hu, r185⟩ := RepL.atE hr181 hx183
            refine h_ixL hs180 hu ?_
            refine h_nil ?_
            refine h_newT w (K := K) (.cons (Rep.int _) (.cons (Rep.int _) (.cons r185 .nil))) (fun p186 B187 H188 s189 r190 => ?_) (by show 3 ≤ sizeLine; decide)
            replace m_state := m_state.step s189 nm0
            replace r10 := r10.mono s189.ex
            replace st := st.go s189 go0
            replace w := s189.ok
            replace r190 : Rep K B187 (.ref p186) (enc (⟨a_lane.a, a_lane.b, x182⟩ : (Tp3 Int Int D))) := r190
            exact P.ok _ _ _ st m_state r190
          · replace P := P.iteF c1
            refine h_next ?_
            refine h_nx ?_
            refine h_ret ?_
            refine h_op ?_
            refine h_lst ?_
            refine h_cons ?_
            refine h_c ?_
            refine h_cons ?_
            refine h_lst ?_
            refine h_cons ?_
            refine h_var rfl ?_
            refine h_cons ?_
            refine h_var rfl ?_
            refine h_cons ?_
            refine h_var rfl ?_
            refine h_nil ?_
            refine h_newL w (ds := (([(enc (a_lane.a : Int)), (enc (a_lane.b : Int)), (enc a_lane.c)] : List D)).map enc) (K := K) (.cons (Rep.int _) (.cons (Rep.int _) (.cons r10 .nil))) (fun p191 B192 H193 s194 r195 => ?_) (by show 3 ≤ sizeLine; decide)
            replace m_state := m_state.step s194 nm0
            replace r10 := r10.mono s194.ex
            replace st := st.go s194 go0
            replace w := s194.ok
            replace r195 : Rep K B192 (.ref p191) (enc ([(enc (a_lane.a : Int)), (enc (a_lane.b : Int)), (enc a_lane.c)] : List D)) := r195
            refine h_cons ?_
            refine h_tup ?_
            refine h_cons ?_
            refine h_var rfl ?_
            refine h_cons ?_
            refine h_var rfl ?_
            refine h_nil ?_
            refine h_newT w (K := K) (.cons (Rep.int _) (.cons (Rep.int _) .nil)) (fun p196 B197 H198 s199 r200 => ?_) (by show 2 ≤ sizeLine; decide)
            replace m_state := m_state.step s199 nm0
            replace r10 := r10.mono s199.ex
            replace r195 := r195.mono s199.ex
            replace st := st.go s199 go0
            replace w := s199.ok
            replace r200 : Rep K B197 (.ref p196) (enc (⟨a_lane.a, a_lane.b⟩ : (Tp2 Int Int))) := r200
            refine h_cons ?_
            refine h_tup ?_
            refine h_cons ?_
            refine h_var rfl ?_
            refine h_cons ?_
            refine h_var rfl ?_
            refine h_cons ?_
            refine h_var rfl ?_
            refine h_cons ?_
            refine h_c ?_
            refine h_nil ?_
            refine h_newT w (K := K) (.cons (Rep.int _) (.cons (Rep.int _) (.cons r10 (.cons (Rep.int _) .nil)))) (fun p201 B202 H203 s204 r205 => ?_) (by show 4 ≤ sizeLine; decide)
            replace m_state := m_state.step s204 nm0
            replace r10 := r10.mono s204.ex
            replace r195 := r195.mono s204.ex
            replace r200 := r200.mono s204.ex
            replace st := st.go s204 go0
            replace w := s204.ok
            replace r205 : Rep K B202 (.ref p201) (enc (⟨a_lane.a, a_lane.b, a_lane.c, 0⟩ : (Tp4 Int Int (List (Tp3 (Tp2 Int Int) (Option (Tp2 Int Int)) (Tp2 Int Int))) Int))) := r205
            refine h_cons ?_
            refine h_tup ?_
            refine h_nil ?_
            refine h_newT w (K := K) .nil (fun p206 B207 H208 s209 r210 => ?_) (by show 0 ≤ sizeLine; decide)
            replace m_state := m_state.step s209 nm0
            replace r10 := r10.mono s209.ex
            replace r195 := r195.mono s209.ex
            replace r200 := r200.mono s209.ex
            replace r205 := r205.mono s209.ex
            replace st := st.go s209 go0
            replace w := s209.ok
            replace r210 : Rep K B207 (.ref p206) (enc (.tup [] : D)) := r210
            refine h_cons ?_
            refine h_c ?_
            refine h_nil ?_
            refine h_newL w (ds := (([(enc ()), (enc ([(enc (a_lane.a : Int)), (enc (a_lane.b : Int)), (enc a_lane.c)] : List D)), (enc (⟨a_lane.a, a_lane.b⟩ : (Tp2 Int Int))), (enc (⟨a_lane.a, a_lane.b, a_lane.c, 0⟩ : (Tp4 Int Int (List (Tp3 (Tp2 Int Int) (Option (Tp2 Int Int)) (Tp2 Int Int))) Int))), (.tup [] : D), (enc ("lane" : Str))] : List D)).map enc) (K := K) (.cons Rep.non (.cons r195 (.cons r200 (.cons r205 (.cons r210 (.cons (Rep.str _) .nil)))))) (fun p211 B212 H213 s214 r215 => ?_) (by show 6 ≤ sizeLine; decide)
            replace m_state := m_state.step s214 nm0
            replace r10 := r10.mono s214.ex
            replace st := st.go s214 go0
            replace w := s214.ok
            replace r215 : Rep K B212 (.ref p211) (enc ([(enc ()), (enc ([(enc (a_lane.a : Int)), (enc (a_lane.b : Int)), (enc a_lane.c)] : List D)), (enc (⟨a_lane.a, a_lane.b⟩ : (Tp2 Int Int))), (enc (⟨a_lane.a, a_lane.b, a_lane.c, 0⟩ : (Tp4 Int Int (List (Tp3 (Tp2 Int Int) (Option (Tp2 Int Int)) (Tp2 Int Int))) Int))), (.tup [] : D), (enc ("lane" : Str))] : List D)) := r215
            refine h_call ?_
            refine h_cons ?_
            refine h_var rfl ?_
            refine h_cons ?_
            refine h_c ?_
            refine h_nil ?_
            refine ⟨B212, p_state, x11.2, 6, w, rfl, m_state, (P.bind).mono (fun x216 P => ?_) (fun _ z => z)⟩
            refine fun v220 B217 H218 s219 m_state r221 => ?_
            replace r10 := r10.mono s219.ex
            replace r215 := r215.mono s219.ex
            replace st := st.go s219 (go1 (.inl (by simp)))
            replace w := s219.ok
            cases r221
            obtain ⟨p222, xs223, hv, hs224, hr225⟩ := Rep.sq w r215
            cases hv
            obtain ⟨x226, hx227, P⟩ := P.ix
            obtain ⟨u228, hu, r229⟩ := RepL.atE hr225 hx227
            refine h_ixL hs224 hu ?_
            exact P.ok _ _ _ st m_state r229
theorem ok__law_no_head {f : Addr} {fd : FuncData}  (F : Fun K "_law_no_head" "_law_no_head" s__law_no_head f fd) {f__law_digit : Addr} {d__law_digit : FuncData} (g__law_digit : mg "_law_digit" = some (.ref f__law_digit)) (k__law_digit : PySem.W.keepIn K (.ref f__law_digit) = true) (b__law_digit : L2.Binds K d__law_digit ["_law_state", "_law_base"] []) (G__law_digit : FnOk Pr wo K mg base CX0 1 f__law_digit d__law_digit ["_law_state", "_law_base"] (sp__law_digit K)) {f__law_no_lane : Addr} {d__law_no_lane : FuncData} (g__law_no_lane : mg "_law_no_lane" = some (.ref f__law_no_lane)) (k__law_no_lane : PySem.W.keepIn K (.ref f__law_no_lane) = true) (b__law_no_lane : L2.Binds K d__law_no_lane ["_law_state", "_law_lane"] []) (G__law_no_lane : FnOk Pr wo K mg base CX0 3 f__law_no_lane d__law_no_lane ["_law_state", "_law_lane"] (sp__law_no_lane K)) (bI_len : mg "len" = none) (bI_tuple : mg "tuple" = none) : FnOk Pr wo K mg base CX0 4 f fd ["_law_state", "_law_head_here"] (sp__law_no_head K) := by
  refine F.ok sc__law_no_head (fun vs H Q E h => ?_) (fun cdv A outer s H0 vs Q E hr h => ?_)
  · obtain ⟨_, _, _, _, _, _, rfl, _⟩ := h; rfl
  · obtain ⟨B0, p_state, a_state, v_head_here, a_head_here, w, rfl, m_state, r_head_here, P⟩ := h
    have w0 := w
    have hu := hu_of hr
    have hu64 := hu64_of hr
    have hu65 := hu65_of hr
    have hr1 : Room 1 _ := hr.mono (by decide)
    have hr3 : Room 3 _ := hr.mono (by decide)
    refine ⟨_, (pss_cons (ps_asg (pv 1) (pg_tupK (K := K) (n := 3) rfl rfl (pgs_cons (pg_name (i := 2) sc__law_no_head.nd rfl (by first | exact Or.inl rfl | exact Or.inr rfl)) (pgs_cons (pg_name (i := 3) sc__law_no_head.nd rfl (by first | exact Or.inl rfl | exact Or.inr rfl)) (pgs_cons (pg_name (i := 4) sc__law_no_head.nd rfl (by first | exact Or.inl rfl | exact Or.inr rfl)) pgs_nil)))))
      (pss_cons (ps_set (i := 5) sc__law_no_head.nd rfl (by first | exact Or.inl rfl | exact Or.inr rfl) (pe_call G__law_digit hr1 rfl g__law_digit k__law_digit b__law_digit .nil pass0 (pa_cons (pv 0) (pa_cons pe_int pa_nil))))
      (pss_cons (ps_if (pt_cmpR op_eq (pv 5) pe_int (nomark _)) (pss_one (ps_ret (pe_ix (r := rIxL K) ix_list (pe_lst (pa_cons pe_non (pa_cons (pe_lst (pa_cons (pv 2) (pa_cons (pv 3) (pa_cons (pv 4) pa_nil)))) (pa_cons (pe_tup (pa_cons (pv 2) (pa_cons (pv 3) pa_nil))) (pa_cons (pe_tup (pa_cons (pv 2) (pa_cons (pv 3) (pa_cons (pv 4) (pa_cons pe_int pa_nil))))) (pa_cons (pe_tup pa_nil) (pa_cons pe_str (pa_cons pe_dnewK pa_nil)))))))) (pe_call G__law_digit hr1 rfl g__law_digit k__law_digit b__law_digit .nil pass0 (pa_cons (pv 0) (pa_cons pe_int pa_nil))) (fun _ _ => rfl)))) pss_nil)
      (pss_cons (ps_if (pt_cmpR op_eq (pv 5) pe_int (nomark _)) (pss_one (ps_ret (pe_tup (pa_cons (pe_ix (r := rIxL K) ix_list (pe_lst (pa_cons (pe_un un_neg pe_int) (pa_cons (pe_op op_add (pe_op op_pow pe_int pe_int) pe_int) (pa_cons pe_non (pa_cons (pe_cmpR op_eq pe_int pe_int (nomark _)) (pa_cons pe_str pa_nil)))))) (pe_call G__law_digit hr1 rfl g__law_digit k__law_digit b__law_digit .nil pass0 (pa_cons (pv 0) (pa_cons pe_int pa_nil))) (fun _ _ => rfl)) (pa_cons (pv 3) (pa_cons (pv 4) pa_nil)))))) pss_nil)
      (pss_cons (ps_if (pt_cmpR op_eq (pv 5) pe_int (nomark _)) (pss_one (ps_ret (pe_tup (pa_cons (pv 2) (pa_cons (pe_ix (r := rIxL K) ix_list (pe_lst (pa_cons pe_int (pa_cons pe_int (pa_cons (pe_un un_neg pe_int) (pa_cons pe_non (pa_cons (pe_cmpR op_eq pe_int pe_int (nomark _)) (pa_cons pe_str pa_nil))))))) (pe_call G__law_digit hr1 rfl g__law_digit k__law_digit b__law_digit .nil pass0 (pa_cons (pv 0) (pa_cons pe_int pa_nil))) (fun _ _ => rfl)) (pa_cons (pv 4) pa_nil)))))) pss_nil)
      (pss_cons (ps_if (pt_cmpR op_eq (pv 5) pe_int (nomark _)) (pss_one (ps_ret (pe_tup (pa_cons (pv 2) (pa_cons (pv 3) (pa_cons (pe_ix (r := rIxL K) ix_list (pe_lst (pa_cons (pe_lst pa_nil) (pa_cons pe_non (pa_cons (pe_callTy (r := rTupY K) cr_tuple (by rfl) bI_tuple Y.boot_tuple (pa_cons (pv 4) pa_nil)) (pa_cons pe_dnewK (pa_cons (pe_slice (r := rSlQ K) sl_Q (pe_op (r := rRepQ K) op_repQ (pv 4) pe_int) po_none (po_some pe_int)) pa_nil)))))) (pe_call G__law_digit hr1 rfl g__law_digit k__law_digit b__law_digit .nil pass0 (pa_cons (pv 0) (pa_cons pe_int pa_nil))) (fun _ _ => rfl)) pa_nil)))))) pss_nil)
      (pss_cons (ps_set (i := 6) sc__law_no_head.nd rfl (by first | exact Or.inl rfl | exact Or.inr rfl) (pe_call G__law_digit hr1 rfl g__law_digit k__law_digit b__law_digit .nil pass0 (pa_cons (pv 0) (pa_cons (pe_callB (r := rLenY K) cr_len (by rfl) bI_len PySem.boot_len (pa_cons (pv 4) pa_nil)) pa_nil))))
      (pss_one (ps_ret (pe_tup (pa_cons (pv 2) (pa_cons (pv 3) (pa_cons (pe_op (r := rCatQ K) op_catQ (pe_op (r := rCatQ K) op_catQ (pe_slice (r := rSlQ K) sl_Q (pv 4) po_none (po_some (pv 6))) (pe_lst (pa_cons (pe_call G__law_no_lane hr3 rfl g__law_no_lane k__law_no_lane b__law_no_lane .nil pass0 (pa_cons (pv 0) (pa_cons (pe_ix (r := rIxL K) ix_list (pv 4) (pv 6) (fun _ _ => rfl)) pa_nil))) pa_nil))) (pe_slice (r := rSlQ K) sl_Q (pv 4) (po_some (pe_op op_add (pv 6) pe_int)) po_none)) pa_nil))))))))))))), ?_⟩
    unfold l_no_head at P
    have st := Stp.refl (W := [p_state]) w
    refine h_seq ?_
    refine h_asg ?_
    refine h_var rfl ?_
    obtain ⟨p1, xs2, rfl, hs3, hr4⟩ := Rep.st w (r_head_here.mono st.ex)
    obtain ⟨u5, u7, u9, rfl, r6, r8, r10⟩ := RepL.open3 hr4
    refine h_tupG hs3 rfl ?_
    refine h_gcons ?_
    refine h_gname ?_
    cases r6
    refine h_gcons ?_
    refine h_gname ?_
    cases r8
    refine h_gcons ?_
    refine h_gname ?_
    refine h_gnil ?_
    refine h_nx ?_
    refine h_set ?_
    refine h_call ?_
    refine h_cons ?_
    refine h_var rfl ?_
    refine h_cons ?_
    refine h_c ?_
    refine h_nil ?_
    refine ⟨B0, p_state, a_state, 5, w, rfl, m_state, (P.bind).mono (fun x11 P => ?_) (fun _ z => z)⟩
    refine fun v15 B12 H13 s14 m_state r16 => ?_
    replace r10 := r10.mono s14.ex
    replace st := st.go s14 (go1 (.inl (by simp)))
    replace w := s14.ok
    cases r16
    refine h_seq <| h_if ?_
    refine h_test ?_
    refine h_op ?_
    refine h_var rfl ?_
    refine h_c ?_
    refine h_eqI ?_
    refine h_bl ?_
    refine h_ite (fun c1 => ?_) (fun c1 => ?_)
    · replace P := P.iteT c1
      refine h_ret ?_
      refine h_op ?_
      refine h_lst ?_
      refine h_cons ?_
      refine h_c ?_
      refine h_cons ?_
      refine h_lst ?_
      refine h_cons ?_
      refine h_var rfl ?_
      refine h_cons ?_
      refine h_var rfl ?_
      refine h_cons ?_
      refine h_var rfl ?_
      refine h_nil ?_
      refine h_newL w (ds := (([(enc (a_head_here.a : Int)), (enc (a_head_here.b : Int)), (enc a_head_here.c)] : List D)).map enc) (K := K) (.cons (Rep.int _) (.cons (Rep.int _) (.cons r10 .nil))) (fun p17 B18 H19 s20 r21 => ?_) (by show 3 ≤ sizeLine; decide)
      replace m_state := m_state.step s20 nm0
      replace r10 := r10.mono s20.ex
      replace st := st.go s20 go0
      replace w := s20.ok
      replace r21 : Rep K B18 (.ref p17) (enc ([(enc (a_head_here.a : Int)), (enc (a_head_here.b : Int)), (enc a_head_here.c)] : List D)) := r21
      refine h_cons ?_
      refine h_tup ?_
      refine h_cons ?_
      refine h_var rfl ?_
      refine h_cons ?_
      refine h_var rfl ?_
      refine h_nil ?_
      refine h_newT w (K := K) (.cons (Rep.int _) (.cons (Rep.int _) .nil)) (fun p22 B23 H24 s25 r26 => ?_) (by show 2 ≤ sizeLine; decide)
      replace m_state := m_state.step s25 nm0
      replace r10 := r10.mono s25.ex
      replace r21 := r21.mono s25.ex
      replace st := st.go s25 go0
      replace w := s25.ok
      replace r26 : Rep K B23 (.ref p22) (enc (⟨a_head_here.a, a_head_here.b⟩ : (Tp2 Int Int))) := r26
      refine h_cons ?_
      refine h_tup ?_
      refine h_cons ?_
      refine h_var rfl ?_
      refine h_cons ?_
      refine h_var rfl ?_
      refine h_cons ?_
      refine h_var rfl ?_
      refine h_cons ?_
      refine h_c ?_
      refine h_nil ?_
      refine h_newT w (K := K) (.cons (Rep.int _) (.cons (Rep.int _) (.cons r10 (.cons (Rep.int _) .nil)))) (fun p27 B28 H29 s30 r31 => ?_) (by show 4 ≤ sizeLine; decide)
      replace m_state := m_state.step s30 nm0
      replace r10 := r10.mono s30.ex
      replace r21 := r21.mono s30.ex
      replace r26 := r26.mono s30.ex
      replace st := st.go s30 go0
      replace w := s30.ok
      replace r31 : Rep K B28 (.ref p27) (enc (⟨a_head_here.a, a_head_here.b, a_head_here.c, 0⟩ : (Tp4 Int Int (List (Tp3 Int Int (List (Tp3 (Tp2 Int Int) (Option (Tp2 Int Int)) (Tp2 Int Int))))) Int))) := r31
      refine h_cons ?_
      refine h_tup ?_
      refine h_nil ?_
      refine h_newT w (K := K) .nil (fun p32 B33 H34 s35 r36 => ?_) (by show 0 ≤ sizeLine; decide)
      replace m_state := m_state.step s35 nm0
      replace r10 := r10.mono s35.ex
      replace r21 := r21.mono s35.ex
      replace r26 := r26.mono s35.ex
      replace r31 := r31.mono s35.ex
      replace st := st.go s35 go0
      replace w := s35.ok
      replace r36 : Rep K B33 (.ref p32) (enc (.tup [] : D)) := r36
      refine h_cons ?_
      refine h_c ?_
      refine h_cons ?_
      refine h_dnew w (K := K) (fun p37 B38 H39 s40 r41 => ?_)
      replace m_state := m_state.step s40 nm0
      replace r10 := r10.mono s40.ex
      replace r21 := r21.mono s40.ex
      replace r26 := r26.mono s40.ex
      replace r31 := r31.mono s40.ex
      replace r36 := r36.mono s40.ex
      replace st := st.go s40 go0
      replace w := s40.ok
      refine h_nil ?_
      refine h_newL w (ds := (([(enc ()), (enc ([(enc (a_head_here.a : Int)), (enc (a_head_here.b : Int)), (enc a_head_here.c)] : List D)), (enc (⟨a_head_here.a, a_head_here.b⟩ : (Tp2 Int Int))), (enc (⟨a_head_here.a, a_head_here.b, a_head_here.c, 0⟩ : (Tp4 Int Int (List (Tp3 Int Int (List (Tp3 (Tp2 Int Int) (Option (Tp2 Int Int)) (Tp2 Int Int))))) Int))), (.tup [] : D), (enc ("head" : Str)), (.dic [] : D)] : List D)).map enc) (K := K) (.cons Rep.non (.cons r21 (.cons r26 (.cons r31 (.cons r36 (.cons (Rep.str _) (.cons r41 .nil))))))) (fun p42 B43 H44 s45 r46 => ?_) (by show 7 ≤ sizeLine; decide)
      replace m_state := m_state.step s45 nm0
      replace r10 := r10.mono s45.ex
      replace st := st.go s45 go0
      replace w := s45.ok
      replace r46 : Rep K B43 (.ref p42) (enc ([(enc ()), (enc ([(enc (a_head_here.a : Int)), (enc (a_head_here.b : Int)), (enc a_head_here.c)] : List D)), (enc (⟨a_head_here.a, a_head_here.b⟩ : (Tp2 Int Int))), (enc (⟨a_head_here.a, a_head_here.b, a_head_here.c, 0⟩ : (Tp4 Int Int (List (Tp3 Int Int (List (Tp3 (Tp2 Int Int) (Option (Tp2 Int Int)) (Tp2 Int Int))))) Int))), (.tup [] : D), (enc ("head" : Str)), (.dic [] : D)] : List D)) := r46
      refine h_call ?_
      refine h_cons ?_
      refine h_var rfl ?_
      refine h_cons ?_
      refine h_c ?_
      refine h_nil ?_
      refine ⟨B43, p_state, x11.2, 7, w, rfl, m_state, (P.bind).mono (fun x47 P => ?_) (fun _ z => z)⟩
      refine fun v51 B48 H49 s50 m_state r52 => ?_
      replace r10 := r10.mono s50.ex
      replace r46 := r46.mono s50.ex
      replace st := st.go s50 (go1 (.inl (by simp)))
      replace w := s50.ok
      cases r52
      obtain ⟨p53, xs54, hv, hs55, hr56⟩ := Rep.sq w r46
      cases hv
      obtain ⟨x57, hx58, P⟩ := P.ix
      obtain ⟨u59, hu, r60⟩ := RepL.atE hr56 hx58
      refine h_ixL hs55 hu ?_
      exact P.ok _ _ _ st m_state r60
    · replace P := P.iteF c1
      refine h_next ?_
      refine h_nx ?_
      refine h_seq <| h_if ?_
      refine h_test ?_
      refine h_op ?_
      refine h_var rfl ?_
      refine h_c ?_
      refine h_eqI ?_
      refine h_bl ?_
      refine h_ite (fun c1 => ?_) (fun c1 => ?_)
      · replace P := P.iteT c1
        refine h_ret ?_
        refine h_tup ?_
        refine h_cons ?_
        refine h_op ?_
        refine h_lst ?_
        refine h_cons ?_
        refine h_un ?_
        refine h_c ?_
        refine h_U ?_
        refine h_cons ?_
        refine h_op ?_
        refine h_op (h_c (h_c (h_pow (k := 1000000000) (by decide +kernel) (by decide +kernel) ?_)))
        refine h_c ?_
        refine h_I0 ?_
        refine h_cons ?_
        refine h_c ?_
        refine h_cons ?_
        refine h_op ?_
        refine h_c ?_
        refine h_c ?_
        refine h_eqI ?_
        refine h_cons ?_
        refine h_c ?_
        refine h_nil ?_
        refine h_newL w (ds := (([(enc ((-1) : Int)), (enc ((1000000000 + 1) : Int)), (enc ()), (enc (decide (1 = 1))), (enc ("1" : Str))] : List D)).map enc) (K := K) (.cons (Rep.int _) (.cons (Rep.int _) (.cons Rep.non (.cons (Rep.bl _) (.cons (Rep.str _) .nil))))) (fun p61 B62 H63 s64 r65 => ?_) (by show 5 ≤ sizeLine; decide)
        replace m_state := m_state.step s64 nm0
        replace r10 := r10.mono s64.ex
        replace st := st.go s64 go0
        replace w := s64.ok
        replace r65 : Rep K B62 (.ref p61) (enc ([(enc ((-1) : Int)), (enc ((1000000000 + 1) : Int)), (enc ()), (enc (decide (1 = 1))), (enc ("1" : Str))] : List D)) := r65
        refine h_call ?_
        refine h_cons ?_
        refine h_var rfl ?_
        refine h_cons ?_
        refine h_c ?_
        refine h_nil ?_
        refine ⟨B62, p_state, x11.2, 5, w, rfl, m_state, (P.bind).mono (fun x66 P => ?_) (fun _ z => z)⟩
        refine fun v70 B67 H68 s69 m_state r71 => ?_
        replace r10 := r10.mono s69.ex
        replace r65 := r65.mono s69.ex
        replace st := st.go s69 (go1 (.inl (by simp)))
        replace w := s69.ok
        cases r71
        obtain ⟨p72, xs73, hv, hs74, hr75⟩ := Rep.sq w r65
        cases hv
        obtain ⟨x76, hx77, P⟩ := P.ix
        obtain ⟨u78, hu, r79⟩ := RepL.atE hr75 hx77
        refine h_ixL hs74 hu ?_
        refine h_cons ?_
        refine h_var rfl ?_
        refine h_cons ?_
        refine h_var rfl ?_
        refine h_nil ?_
        refine h_newT w (K := K) (.cons r79 (.cons (Rep.int _) (.cons r10 .nil))) (fun p80 B81 H82 s83 r84 => ?_) (by show 3 ≤ sizeLine; decide)
        replace m_state := m_state.step s83 nm0
        replace r10 := r10.mono s83.ex
        replace st := st.go s83 go0
        replace w := s83.ok
        replace r84 : Rep K B81 (.ref p80) (enc (⟨x76, a_head_here.b, a_head_here.c⟩ : (Tp3 D Int (List (Tp3 Int Int (List (Tp3 (Tp2 Int Int) (Option (Tp2 Int Int)) (Tp2 Int Int)))))))) := r84
        exact P.ok _ _ _ st m_state r84
      · replace P := P.iteF c1
        refine h_next ?_
        refine h_nx ?_
        refine h_seq <| h_if ?_
        refine h_test ?_
        refine h_op ?_
        refine h_var rfl ?_
        refine h_c ?_
        refine h_eqI ?_
        refine h_bl ?_
        refine h_ite (fun c1 => ?_) (fun c1 => ?_)
        · replace P := P.iteT c1
          refine h_ret ?_
          refine h_tup ?_
          refine h_cons ?_
          refine h_var rfl ?_
          refine h_cons ?_
          refine h_op ?_
          refine h_lst ?_
          refine h_cons ?_
          refine h_c ?_
          refine h_cons ?_
          refine h_c ?_
          refine h_cons ?_
          refine h_un ?_
          refine h_c ?_
          refine h_U ?_
          refine h_cons ?_
          refine h_c ?_
          refine h_cons ?_
          refine h_op ?_
          refine h_c ?_
          refine h_c ?_
          refine h_eqI ?_
          refine h_cons ?_
          refine h_c ?_
          refine h_nil ?_
          refine h_newL w (ds := (([(enc (0 : Int)), (enc (17 : Int)), (enc ((-1) : Int)), (enc ()), (enc (decide (1 = 1))), (enc ("1" : Str))] : List D)).map enc) (K := K) (.cons (Rep.int _) (.cons (Rep.int _) (.cons (Rep.int _) (.cons Rep.non (.cons (Rep.bl _) (.cons (Rep.str _) .nil)))))) (fun p85 B86 H87 s88 r89 => ?_) (by show 6 ≤ sizeLine; decide)
          replace m_state := m_state.step s88 nm0
          replace r10 := r10.mono s88.ex
          replace st := st.go s88 go0
          replace w := s88.ok
          replace r89 : Rep K B86 (.ref p85) (enc ([(enc (0 : Int)), (enc (17 : Int)), (enc ((-1) : Int)), (enc ()), (enc (decide (1 = 1))), (enc ("1" : Str))] : List D)) := r89
          refine h_call ?_
          refine h_cons ?_
          refine h_var rfl ?_
          refine h_cons ?_
          refine h_c ?_
          refine h_nil ?_
          refine ⟨B86, p_state, x11.2, 6, w, rfl, m_state, (P.bind).mono (fun x90 P => ?_) (fun _ z => z)⟩
          refine fun v94 B91 H92 s93 m_state r95 => ?_
          replace r10 := r10.mono s93.ex
          replace r89 := r89.mono s93.ex
          replace st := st.go s93 (go1 (.inl (by simp)))
          replace w := s93.ok
          cases r95
          obtain ⟨p96, xs97, hv, hs98, hr99⟩ := Rep.sq w r89
          cases hv
          obtain ⟨x100, hx101, P⟩ := P.ix
          obtain ⟨u102, hu, r103⟩ := RepL.atE hr99 hx101
          refine h_ixL hs98 hu ?_
          refine h_cons ?_
          refine h_var rfl ?_
          refine h_nil ?_
          refine h_newT w (K := K) (.cons (Rep.int _) (.cons r103 (.cons r10 .nil))) (fun p104 B105 H106 s107 r108 => ?_) (by show 3 ≤ sizeLine; decide)
          replace m_state := m_state.step s107 nm0
          replace r10 := r10.mono s107.ex
          replace st := st.go s107 go0
          replace w := s107.ok
          replace r108 : Rep K B105 (.ref p104) (enc (⟨a_head_here.a, x100, a_head_here.c⟩ : (Tp3 Int D (List (Tp3 Int Int (List (Tp3 (Tp2 Int Int) (Option (Tp2 Int Int)) (Tp2 Int Int)))))))) := r108
          exact P.ok _ _ _ st m_state r108
        · replace P := P.iteF c1
          refine h_next ?_
          refine h_nx ?_
          refine h_seq <| h_if ?_
          refine h_test ?_
          refine h_op ?_
          refine h_var rfl ?_
          refine h_c ?_
          refine h_eqI ?_
          refine h_bl ?_
          refine h_ite (fun c1 => ?_) (fun c1 => ?_)
          · replace P := P.iteT c1
            refine h_ret ?_
            refine h_tup ?_
            refine h_cons ?_
            refine h_var rfl ?_
            refine h_cons ?_
            refine h_var rfl ?_
            refine h_cons ?_
            refine h_op ?_
            refine h_lst ?_
            refine h_cons ?_
            refine h_lst ?_
            refine h_nil ?_
            refine h_newL w (ds := (([] : List D)).map enc) (K := K) .nil (fun p109 B110 H111 s112 r113 => ?_) (by show 0 ≤ sizeLine; decide)
            replace m_state := m_state.step s112 nm0
            replace r10 := r10.mono s112.ex
            replace st := st.go s112 go0
            replace w := s112.ok
            replace r113 : Rep K B110 (.ref p109) (enc ([] : List D)) := r113
            refine h_cons ?_
            refine h_c ?_
            refine h_cons ?_
            refine h_cb ?_
            refine h_cons ?_
            refine h_var rfl ?_
            refine h_nil ?_
            obtain ⟨p114, xs115, rfl, hs116, hr117⟩ := Rep.sq w r10
            refine h_tupL hs116 (h_nwT w (K := K) hr117 (fun p118 B119 H120 s121 r122 => ?_))
            replace m_state := m_state.step s121 nm0
            replace r10 := r10.mono s121.ex
            replace r113 := r113.mono s121.ex
            replace st := st.go s121 go0
            replace w := s121.ok
            refine h_cons ?_
            refine h_dnew w (K := K) (fun p123 B124 H125 s126 r127 => ?_)
            replace m_state := m_state.step s126 nm0
            replace r10 := r10.mono s126.ex
            replace r113 := r113.mono s126.ex
            replace r122 := r122.mono s126.ex
            replace st := st.go s126 go0
            replace w := s126.ok
            refine h_cons ?_
            refine h_sl ?_
            refine h_op ?_
            refine h_var rfl ?_
            refine h_c ?_
            obtain ⟨p128, xs129, hv, hs130, hr131⟩ := Rep.sq w r10
            cases hv
            obtain ⟨gd, P⟩ := P.guard
            refine h_repQ hs130 (hr131.length.trans (List.length_map ..)) gd ?_
            refine h_nwL w (ds := ((timesL a_head_here.c 9)).map enc) (K := K) (RepL.times hr131 9) (fun p132 B133 H134 s135 r136 => ?_) 
            replace m_state := m_state.step s135 nm0
            replace r10 := r10.mono s135.ex
            replace r113 := r113.mono s135.ex
            replace r122 := r122.mono s135.ex
            replace r127 := r127.mono s135.ex
            replace st := st.go s135 go0
            replace w := s135.ok
            replace r136 : Rep K B133 (.ref p132) (enc (timesL a_head_here.c 9)) := r136
            refine h_nopart ?_
            refine h_part ?_
            refine h_c ?_
            refine h_isI ?_
            obtain ⟨p137, xs138, hv, hs139, hr140⟩ := Rep.sq w r136
            cases hv
            refine h_slQ hs139 ?_
            refine h_nwL w (ds := ((cutL (timesL a_head_here.c 9) none (some 9))).map enc) (K := K) (hr140.cut none (some 9)) (fun p141 B142 H143 s144 r145 => ?_) 
            replace m_state := m_state.step s144 nm0
            replace r10 := r10.mono s144.ex
            replace r113 := r113.mono s144.ex
            replace r122 := r122.mono s144.ex
            replace r127 := r127.mono s144.ex
            replace st := st.go s144 go0
            replace w := s144.ok
            replace r145 : Rep K B142 (.ref p141) (enc (cutL (timesL a_head_here.c 9) none (some 9))) := r145
            refine h_nil ?_
            refine h_newL w (ds := (([(enc ([] : List D)), (enc ()), (.tup (a_head_here.c.map enc) : D), (.dic [] : D), (enc (cutL (timesL a_head_here.c 9) none (some 9)))] : List D)).map enc) (K := K) (.cons r113 (.cons Rep.non (.cons r122 (.cons r127 (.cons r145 .nil))))) (fun p146 B147 H148 s149 r150 => ?_) (by show 5 ≤ sizeLine; decide)
            replace m_state := m_state.step s149 nm0
            replace r10 := r10.mono s149.ex
            replace st := st.go s149 go0
            replace w := s149.ok
            replace r150 : Rep K B147 (.ref p146) (enc ([(enc ([] : List D)), (enc ()), (.tup (a_head_here.c.map enc) : D), (.dic [] : D), (enc (cutL (timesL a_head_here.c 9) none (some 9)))] : List D)) := r150
            refine h_call ?_
            refine h_cons ?_
            refine h_var rfl ?_
            refine h_cons ?_
            refine h_c ?_
            refine h_nil ?_
            refine ⟨B147, p_state, x11.2, 5, w, rfl, m_state, (P.bind).mono (fun x151 P => ?_) (fun _ z => z)⟩
            refine fun v155 B152 H153 s154 m_state r156 => ?_
            replace r10 := r10.mono s154.ex
            replace r150 := r150.mono s154.ex
            replace st := st.go s154 (go1 (.inl (by simp)))
            replace w := s154.ok
            cases r156
            obtain ⟨p157, xs158, hv, hs159, hr160⟩ := Rep.sq w r150
            cases hv
            obtain ⟨x161, hx162, P⟩ := P.ix
            obtain ⟨u163, hu, r164⟩ := RepL.atE hr160 hx162
            refine h_ixL hs159 hu ?_
            refine h_nil ?_
            refine h_newT w (K := K) (.cons (Rep.int _) (.cons (Rep.int _) (.cons r164 .nil))) (fun p165 B166 H167 s168 r169 => ?_) (by show 3 ≤ sizeLine; decide)
            replace m_state := m_state.step s168 nm0
            replace r10 := r10.mono s168.ex
            replace st := st.go s168 go0
            replace w := s168.ok
            replace r169 : Rep K B166 (.ref p165) (enc (⟨a_head_here.a, a_head_here.b, x161⟩ : (Tp3 Int Int D))) := r169
            exact P.ok _ _ _ st m_state r169
          · replace P := P.iteF c1
            refine h_next ?_
            refine h_nx ?_
            refine h_set ?_
            refine h_call ?_
            refine h_cons ?_
            refine h_var rfl ?_
            refine h_cons ?_
            refine h_cb ?_
            refine h_cons ?_
            refine h_var rfl ?_
            refine h_nil ?_
            obtain ⟨p170, xs171, rfl, hs172, hr173⟩ := Rep.sq w r10
            refine h_len hs172 hr173 ?_
            refine h_nil ?_
            refine ⟨B12, p_state, x11.2, (a_head_here.c.length : Int), w, rfl, m_state, (P.bind).mono (fun x174 P => ?_) (fun _ z => z)⟩
            refine fun v178 B175 H176 s177 m_state r179 => ?_
            replace r10 := r10.mono s177.ex
            replace st := st.go s177 (go1 (.inl (by simp)))
            replace w := s177.ok
            cases r179
            refine h_ret ?_
            refine h_tup ?_
            refine h_cons ?_
            refine h_var rfl ?_
            refine h_cons ?_
            refine h_var rfl ?_
            refine h_cons ?_
            refine h_op ?_
            refine h_op ?_
            refine h_sl ?_
            refine h_var rfl ?_
            refine h_nopart ?_
            refine h_part ?_
            refine h_var rfl ?_
            refine h_isI ?_
            obtain ⟨p180, xs181, hv, hs182, hr183⟩ := Rep.sq w r10
            cases hv
            refine h_slQ hs182 ?_
            refine h_nwL w (ds := ((cutL a_head_here.c none (some x174.1))).map enc) (K := K) (hr183.cut none (some x174.1)) (fun p184 B185 H186 s187 r188 => ?_) 
            replace m_state := m_state.step s187 nm0
            replace r10 := r10.mono s187.ex
            replace st := st.go s187 go0
            replace w := s187.ok
            replace r188 : Rep K B185 (.ref p184) (enc (cutL a_head_here.c none (some x174.1))) := r188
            refine h_lst ?_
            refine h_cons ?_
            refine h_call ?_
            refine h_cons ?_
            refine h_var rfl ?_
            refine h_cons ?_
            refine h_op ?_
            refine h_var rfl ?_
            refine h_var rfl ?_
            obtain ⟨p189, xs190, hv, hs191, hr192⟩ := Rep.sq w r10
            cases hv
            obtain ⟨x193, hx194, P⟩ := P.ix
            obtain ⟨u195, hu, r196⟩ := RepL.atE hr192 hx194
            refine h_ixL hs191 hu ?_
            refine h_nil ?_
            refine ⟨B185, p_state, x174.2, u195, x193, w, rfl, m_state, r196, (P.bind).mono (fun x197 P => ?_) (fun _ z => z)⟩
            refine fun v201 B198 H199 s200 m_state r202 => ?_
            replace r10 := r10.mono s200.ex
            replace r188 := r188.mono s200.ex
            replace r196 := r196.mono s200.ex
            replace st := st.go s200 (go1 (.inl (by simp)))
            replace w := s200.ok
            refine h_nil ?_
            refine h_newL w (ds := (([x197.1] : List D)).map enc) (K := K) (.cons r202 .nil) (fun p203 B204 H205 s206 r207 => ?_) (by show 1 ≤ sizeLine; decide)
            replace m_state := m_state.step s206 nm0
            replace r10 := r10.mono s206.ex
            replace r188 := r188.mono s206.ex
            replace st := st.go s206 go0
            replace w := s206.ok
            replace r207 : Rep K B204 (.ref p203) (enc ([x197.1] : List D)) := r207
            obtain ⟨p208, xs209, hv, hs210, hr211⟩ := Rep.sq w r188
            cases hv
            obtain ⟨p212, xs213, hv, hs214, hr215⟩ := Rep.sq w r207
            cases hv
            replace hr211 := hr211.toD
            obtain ⟨gd, P⟩ := P.guard
            refine h_cat hs210 hs214 (by have g := gd; simp only [hr211.length, hr215.length, List.length_map] at g ⊢; exact Nat.le_trans g (by decide)) ?_
            refine h_nwL w (ds := ((((cutL a_head_here.c none (some x174.1)).map enc : List D) ++ ([x197.1] : List D))).map enc) (K := K) (RepL.cat hr211 hr215) (fun p216 B217 H218 s219 r220 => ?_) 
            replace m_state := m_state.step s219 nm0
            replace r10 := r10.mono s219.ex
            replace st := st.go s219 go0
            replace w := s219.ok
            replace r220 : Rep K B217 (.ref p216) (enc (((cutL a_head_here.c none (some x174.1)).map enc : List D) ++ ([x197.1] : List D))) := r220
            refine h_sl ?_
            refine h_var rfl ?_
            refine h_part ?_
            refine h_op ?_
            refine h_var rfl ?_
            refine h_c ?_
            refine h_I0 ?_
            refine h_isI ?_
            refine h_nopart ?_
            obtain ⟨p221, xs222, hv, hs223, hr224⟩ := Rep.sq w r10
            cases hv
            refine h_slQ hs223 ?_
            refine h_nwL w (ds := ((cutL a_head_here.c (some (x174.1 + 1)) none)).map enc) (K := K) (hr224.cut (some (x174.1 + 1)) none) (fun p225 B226 H227 s228 r229 => ?_) 
            replace m_state := m_state.step s228 nm0
            replace r10 := r10.mono s228.ex
            replace r220 := r220.mono s228.ex
            replace st := st.go s228 go0
            replace w := s228.ok
            replace r229 : Rep K B226 (.ref p225) (enc (cutL a_head_here.c (some (x174.1 + 1)) none)) := r229
            obtain ⟨p230, xs231, hv, hs232, hr233⟩ := Rep.sq w r220
            cases hv
            obtain ⟨p234, xs235, hv, hs236, hr237⟩ := Rep.sq w r229
            cases hv
            replace hr237 := hr237.toD
            obtain ⟨gd, P⟩ := P.guard
            refine h_cat hs232 hs236 (by have g := gd; simp only [hr233.length, hr237.length, List.length_map] at g ⊢; exact Nat.le_trans g (by decide)) ?_
            refine h_nwL w (ds := (((((cutL a_head_here.c none (some x174.1)).map enc : List D) ++ ([x197.1] : List D)) ++ ((cutL a_head_here.c (some (x174.1 + 1)) none).map enc : List D))).map enc) (K := K) (RepL.cat hr233 hr237) (fun p238 B239 H240 s241 r242 => ?_) 
            replace m_state := m_state.step s241 nm0
            replace r10 := r10.mono s241.ex
            replace st := st.go s241 go0
            replace w := s241.ok
            replace r242 : Rep K B239 (.ref p238) (enc ((((cutL a_head_here.c none (some x174.1)).map enc : List D) ++ ([x197.1] : List D)) ++ ((cutL a_head_here.c (some (x174.1 + 1)) none).map enc : List D))) := r242
            refine h_nil ?_
            refine h_newT w (K := K) (.cons (Rep.int _) (.cons (Rep.int _) (.cons r242 .nil))) (fun p243 B244 H245 s246 r247 => ?_) (by show 3 ≤ sizeLine; decide)
            replace m_state := m_state.step s246 nm0
            replace r10 := r10.mono s246.ex
            replace st := st.go s246 go0
            replace w := s246.ok
            replace r247 : Rep K B244 (.ref p243) (enc (⟨a_head_here.a, a_head_here.b, ((((cutL a_head_here.c none (some x174.1)).map enc : List D) ++ ([x197.1] : List D)) ++ ((cutL a_head_here.c (some (x174.1 + 1)) none).map enc : List D))⟩ : (Tp3 Int Int (List D)))) := r247
            exact P.ok _ _ _ st m_state r247
theorem ok__law_kept {f : Addr} {fd : FuncData}  (F : Fun K "_law_kept" "_law_kept" s__law_kept f fd) (bI_list : mg "list" = none) : FnOk Pr wo K mg base CX0 1 f fd ["_law_head_here"] (sp__law_kept K) := by
  refine F.ok sc__law_kept (fun vs H Q E h => ?_) (fun cdv A outer s H0 vs Q E hr h => ?_)
  · obtain ⟨_, _, _, _, rfl, _⟩ := h; rfl
  · obtain ⟨B0, v_head_here, a_head_here, w, rfl, r_head_here, P⟩ := h
    have w0 := w
    have hu := hu_of hr
    have hu64 := hu64_of hr
    have hu65 := hu65_of hr
    refine ⟨_, (pss_one (ps_ret (pe_tup (pa_cons (pe_ix (r := rIxT K) ix_tup (pv 0) pe_int (fun _ _ => rfl)) (pa_cons (pe_ix (r := rIxT K) ix_tup (pv 0) pe_int (fun _ _ => rfl)) (pa_cons (pe_lc (own := [("_law_units", 1), ("_law_count", 2), ("_law_rows", 3)]) rfl sc__law_kept.nd (pi_list (pe_ix (r := rIxT K) ix_tup (pv 0) pe_int (fun _ _ => rfl))) (blkOk_by (N := ["_law_head_here", "_law_units", "_law_count", "_law_rows"]) (sc := defScope s__law_kept) (by decide +kernel)) (fun _ _ _ _ _ => (pg_tupK (K := K) (n := 3) rfl rfl (pgs_cons (pg_name (i := 1) sc__law_kept.nd rfl (by first | exact Or.inl rfl | exact Or.inr rfl)) (pgs_cons (pg_name (i := 2) sc__law_kept.nd rfl (by first | exact Or.inl rfl | exact Or.inr rfl)) (pgs_cons (pg_name (i := 3) sc__law_kept.nd rfl (by first | exact Or.inl rfl | exact Or.inr rfl)) pgs_nil))))) (fun _ _ _ _ _ => pts_nil) (fun _ _ _ _ _ => (pe_tup (pa_cons (pv 1) (pa_cons (pv 2) (pa_cons (pe_callTy (r := rListY K) cr_list (by rfl) bI_list Y.boot_list (pa_cons (pv 3) pa_nil)) pa_nil)))))) pa_nil)))))), ?_⟩
    unfold l_kept at P
    have st := Stp.refl (W := []) w
    refine h_ret ?_
    refine h_tup ?_
    refine h_cons ?_
    refine h_op ?_
    refine h_var rfl ?_
    refine h_c ?_
    obtain ⟨p1, xs2, rfl, hs3, hr4⟩ := Rep.st w (r_head_here.mono st.ex)
    obtain ⟨u5, hu, r6⟩ := RepL.at hr4 (i := 0) rfl
    refine h_ixT hs3 hu ?_
    cases r6
    refine h_cons ?_
    refine h_op ?_
    refine h_var rfl ?_
    refine h_c ?_
    obtain ⟨p7, xs8, hv, hs9, hr10⟩ := Rep.st w (r_head_here.mono st.ex)
    cases hv
    obtain ⟨u11, hu, r12⟩ := RepL.at hr10 (i := 1) rfl
    refine h_ixT hs9 hu ?_
    cases r12
    refine h_cons ?_
    refine h_lcE ?_
    refine h_op ?_
    refine h_var rfl ?_
    refine h_c ?_
    obtain ⟨p13, xs14, hv, hs15, hr16⟩ := Rep.st w (r_head_here.mono st.ex)
    cases hv
    obtain ⟨u17, hu, r18⟩ := RepL.at hr16 (i := 2) rfl
    refine h_ixT hs15 hu ?_
    obtain ⟨p19, xs20, rfl, hb21, hr22⟩ := Rep.sqB r18
    refine h_lcL P (w.l hb21) hr22 (fun Dl (acc : List (Tp3 Int Int (List (Tp3 (Tp2 Int Int) (Option (Tp2 Int Int)) (Tp2 Int Int))))) (a : Unit) H' => ∃ B', Stp [] B0 H0 B' H' ∧ H0 Dl = none ∧ Mu K B' H' Dl (acc.map enc)) (fun Dl hD => ⟨_, Stp.newM w hD, hD, Mu.new w hD .nil⟩) (fun _ _ _ _ j => ?_) ?_ ?_
    · obtain ⟨B32, s33, hD34, m35⟩ := j
      exact s33.ok.l (s33.ex.l hb21)
    · rintro Dl23 N24 T25 x26 v27 acc29 a30 H31 ⟨B32, s33, hD34, m35⟩ r28 hz36 kk37 kn38 P
      have wj40 := w
      have sj39 := s33
      have n41 := st.nn hD34
      replace st := st.go s33 go0
      replace w := s33.ok
      replace r28 := r28.mono s33.ex
      obtain ⟨p42, xs43, rfl, hs44, hr45⟩ := Rep.st w r28
      obtain ⟨u46, u48, u50, rfl, r47, r49, r51⟩ := RepL.open3 hr45
      refine h_tupG hs44 rfl ?_
      refine h_gcons ?_
      refine h_gname ?_
      cases r47
      refine h_gcons ?_
      refine h_gname ?_
      cases r49
      refine h_gcons ?_
      refine h_gname ?_
      refine h_gnil ?_
      refine h_lcT rfl ?_
      refine h_tup ?_
      refine h_cons ?_
      refine h_var rfl ?_
      refine h_cons ?_
      refine h_var rfl ?_
      refine h_cons ?_
      refine h_cb ?_
      refine h_cons ?_
      refine h_var rfl ?_
      refine h_nil ?_
      obtain ⟨p52, xs53, rfl, hs54, hr55⟩ := Rep.sq w r51
      refine h_listL hs54 ?_
      refine h_nwL w (ds := (x26.c).map enc) (K := K) hr55 (fun p56 B57 H58 s59 r60 => ?_) 
      replace r51 := r51.mono s59.ex
      replace m35 := m35.step s59 nm0
      replace st := st.go s59 go0
      replace sj39 := sj39.go s59 go0
      replace w := s59.ok
      replace r60 : Rep K B57 (.ref p56) (enc x26.c) := r60
      refine h_nil ?_
      refine h_newT w (K := K) (.cons (Rep.int _) (.cons (Rep.int _) (.cons r60 .nil))) (fun p61 B62 H63 s64 r65 => ?_) (by show 3 ≤ sizeLine; decide)
      replace r51 := r51.mono s64.ex
      replace m35 := m35.step s64 nm0
      replace st := st.go s64 go0
      replace sj39 := sj39.go s64 go0
      replace w := s64.ok
      replace r65 : Rep K B62 (.ref p61) (enc (⟨x26.a, x26.b, x26.c⟩ : (Tp3 Int Int (List (Tp3 (Tp2 Int Int) (Option (Tp2 Int Int)) (Tp2 Int Int)))))) := r65
      refine h_app (b := (⟨x26.a, x26.b, x26.c⟩ : (Tp3 Int Int (List (Tp3 (Tp2 Int Int) (Option (Tp2 Int Int)) (Tp2 Int Int)))))) w m35 r65 hz36 (fun H66 s67 m35 => ?_)
      replace r51 := r51.mono s67.ex
      replace st := st.go s67 (go1 (.inr n41))
      replace sj39 := sj39.go s67 (go1 (.inr hD34))
      replace w := s67.ok
      exact kk37 (⟨x26.a, x26.b, x26.c⟩ : (Tp3 Int Int (List (Tp3 (Tp2 Int Int) (Option (Tp2 Int Int)) (Tp2 Int Int))))) () _ ⟨_, sj39, hD34, m35⟩ P.ok
    · rintro Dl23 acc29 a30 H31 ⟨B32, s33, hD34, m35⟩ P
      have n68 := st.nn hD34
      replace st := st.go s33 go0
      replace w := s33.ok
      replace P := P.un2
      obtain ⟨B73, e69, k70, g71, r72⟩ := Mu.keep m35
      replace st := g71 _ _ _ st w0 n68
      replace w := st.ok
      replace r72 : Rep K B73 (.ref Dl23) (enc acc29) := r72
      refine h_nil ?_
      refine h_newT w (K := K) (.cons (Rep.int _) (.cons (Rep.int _) (.cons r72 .nil))) (fun p74 B75 H76 s77 r78 => ?_) (by show 3 ≤ sizeLine; decide)
      replace st := st.go s77 go0
      replace w := s77.ok
      replace r78 : Rep K B75 (.ref p74) (enc (⟨a_head_here.a, a_head_here.b, acc29⟩ : (Tp3 Int Int (List (Tp3 Int Int (List (Tp3 (Tp2 Int Int) (Option (Tp2 Int Int)) (Tp2 Int Int)))))))) := r78
      exact P.ok _ _ _ st r78
theorem ok__law_kinds {f : Addr} {fd : FuncData}  (F : Fun K "_law_kinds" "_law_kinds" s__law_kinds f fd) (bI_all : mg "all" = none) (bI_isinstance : mg "isinstance" = none) (bI_tuple : mg "tuple" = none) (bI_list : mg "list" = none) : FnOk Pr wo K mg base CX0 1 f fd ["_law_head_here"] (sp__law_kinds K) := by
  refine F.ok sc__law_kinds (fun vs H Q E h => ?_) (fun cdv A outer s H0 vs Q E hr h => ?_)
  · obtain ⟨_, _, _, _, rfl, _⟩ := h; rfl
  · obtain ⟨B0, v_head_here, a_head_here, w, rfl, r_head_here, P⟩ := h
    have w0 := w
    have hu := hu_of hr
    have hu64 := hu64_of hr
    have hu65 := hu65_of hr
    refine ⟨_, (pss_cons (ps_if (PW.pt (pw_or (pt_not (pt_val (pe_callB (r := rIsi K) call_isi (by rfl) bI_isinstance PyProof.Rows.boot_isinstance (pa_cons (pv 0) (pa_cons (pe_bltn (v := .ty "tuple") (by rfl) bI_tuple Y.boot_tuple rfl) pa_nil))))) (pw_or1 (pt_not (pt_val (pe_callB (r := rIsi K) call_isi (by rfl) bI_isinstance PyProof.Rows.boot_isinstance (pa_cons (pe_ix (r := rIxT K) ix_tup (pv 0) pe_int (fun _ _ => rfl)) (pa_cons (pe_bltn (v := .ty "list") (by rfl) bI_list Y.boot_list rfl) pa_nil)))))))) (pss_one (ps_ret pe_bl)) pss_nil)
      (pss_one (ps_ret (pe_callB (r := rAll K) (cr_all rfl) (by rfl) bI_all PyProof.Rows.boot_all (pa_cons (pe_lc (own := [("_law_lane", 1)]) rfl sc__law_kinds.nd (pi_list (pe_ix (r := rIxT K) ix_tup (pv 0) pe_int (fun _ _ => rfl))) (blkOk_by (N := ["_law_head_here", "_law_lane"]) (sc := defScope s__law_kinds) (by decide +kernel)) (fun _ _ _ _ _ => (pg_name (i := 1) sc__law_kinds.nd rfl (by first | exact Or.inl rfl | exact Or.inr rfl))) (fun _ _ _ _ _ => pts_nil) (fun _ _ _ _ _ => (pe_and (pe_callB (r := rIsi K) call_isi (by rfl) bI_isinstance PyProof.Rows.boot_isinstance (pa_cons (pv 1) (pa_cons (pe_bltn (v := .ty "tuple") (by rfl) bI_tuple Y.boot_tuple rfl) pa_nil))) (pe_one (pe_callB (r := rIsi K) call_isi (by rfl) bI_isinstance PyProof.Rows.boot_isinstance (pa_cons (pe_ix (r := rIxT K) ix_tup (pv 1) pe_int (fun _ _ => rfl)) (pa_cons (pe_bltn (v := .ty "list") (by rfl) bI_list Y.boot_list rfl) pa_nil))))))) pa_nil))))), ?_⟩
    unfold l_kinds at P
    have st := Stp.refl (W := []) w
    refine h_seq <| h_if ?_
    refine h_tor ?_
    refine h_tnot ?_
    refine h_tB ?_
    refine h_cb ?_
    refine h_cons ?_
    refine h_var rfl ?_
    refine h_cons ?_
    refine h_c ?_
    refine h_nil ?_
    refine isi (t := "tuple") w (r_head_here.mono st.ex) ?_
    refine h_bl ?_
    refine h_iteN (fun c1 => ?_) (fun c1 => ?_)
    · replace P := P.iteF c1
      refine h_iteT ?_
      refine h_ret ?_
      refine h_c ?_
      exact P.ok _ _ _ st (Rep.bl _)
    · replace P := P.iteT c1
      refine h_tnot ?_
      refine h_tB ?_
      refine h_cb ?_
      refine h_cons ?_
      refine h_op ?_
      refine h_var rfl ?_
      refine h_c ?_
      obtain ⟨p1, xs2, rfl, hs3, hr4⟩ := Rep.st w (r_head_here.mono st.ex)
      obtain ⟨u5, hu, r6⟩ := RepL.at hr4 (i := 2) rfl
      refine h_ixT hs3 hu ?_
      refine h_cons ?_
      refine h_c ?_
      refine h_nil ?_
      refine isi (t := "list") w r6 ?_
      refine h_bl ?_
      refine h_iteN (fun c1 => ?_) (fun c1 => ?_)
      · replace P := P.iteF c1
        refine h_ret ?_
        refine h_c ?_
        exact P.ok _ _ _ st (Rep.bl _)
      · replace P := P.iteT c1
        refine h_next ?_
        refine h_nx ?_
        refine h_ret ?_
        refine h_cb ?_
        refine h_cons ?_
        refine h_lcE ?_
        refine h_op ?_
        refine h_var rfl ?_
        refine h_c ?_
        obtain ⟨p7, xs8, hv, hs9, hr10⟩ := Rep.st w (r_head_here.mono st.ex)
        cases hv
        obtain ⟨u11, hu, r12⟩ := RepL.at hr10 (i := 2) rfl
        refine h_ixT hs9 hu ?_
        obtain ⟨p13, xs14, rfl, hb15, hr16⟩ := Rep.sqB r12
        refine h_lcL P (w.l hb15) hr16 (fun Dl (acc : List Bool) (a : Unit) H' => ∃ B', Stp [] B0 H0 B' H' ∧ H0 Dl = none ∧ Mu K B' H' Dl (acc.map enc)) (fun Dl hD => ⟨_, Stp.newM w hD, hD, Mu.new w hD .nil⟩) (fun _ _ _ _ j => ?_) ?_ ?_
        · obtain ⟨B26, s27, hD28, m29⟩ := j
          exact s27.ok.l (s27.ex.l hb15)
        · rintro Dl17 N18 T19 x20 v21 acc23 a24 H25 ⟨B26, s27, hD28, m29⟩ r22 hz30 kk31 kn32 P
          have wj34 := w
          have sj33 := s27
          have n35 := st.nn hD28
          replace st := st.go s27 go0
          replace w := s27.ok
          replace r22 := r22.mono s27.ex
          refine h_gname ?_
          refine h_lcT rfl ?_
          have wj37 := w
          have sj36 := Stp.refl (W := []) w
          refine h_exprJ P (fun (a : Bool) v H' => ∃ B', Stp [] B26 H25 B' H' ∧ v = .bl a) (fun N kk38 P => ?_) ?_
          · skip
            refine h_and ?_
            refine h_cb ?_
            refine h_cons ?_
            refine h_var rfl ?_
            refine h_cons ?_
            refine h_c ?_
            refine h_nil ?_
            refine isi (t := "tuple") w r22 ?_
            refine h_bl ?_
            refine h_ite (fun c1 => ?_) (fun c1 => ?_)
            · replace P := P.iteT c1
              refine h_cb ?_
              refine h_cons ?_
              refine h_op ?_
              refine h_var rfl ?_
              refine h_c ?_
              obtain ⟨p39, xs40, rfl, hs41, hr42⟩ := Rep.st w r22
              obtain ⟨u43, hu, r44⟩ := RepL.at hr42 (i := 2) rfl
              refine h_ixT hs41 hu ?_
              refine h_cons ?_
              refine h_c ?_
              refine h_nil ?_
              refine isi (t := "list") w r44 ?_
              exact kk38 (isA "list" (enc x20.c)) _ _ ⟨_, sj36, rfl⟩ P.ok
            · replace P := P.iteF c1
              exact kk38 false _ _ ⟨_, sj36, rfl⟩ P.ok
          rintro a45 v46 H48 ⟨B47, s49, r50⟩ P
          replace r22 := r22.mono s49.ex
          replace m29 := m29.step s49 nm0
          replace st := st.go s49 go0
          replace sj33 := sj33.go s49 go0
          replace w := s49.ok
          subst r50
          refine h_app (b := a45) w m29 (Rep.bl _) hz30 (fun H51 s52 m29 => ?_)
          replace r22 := r22.mono s52.ex
          replace st := st.go s52 (go1 (.inr n35))
          replace sj33 := sj33.go s52 (go1 (.inr hD28))
          replace w := s52.ok
          exact kk31 a45 () _ ⟨_, sj33, hD28, m29⟩ P.ok
        · rintro Dl17 acc23 a24 H25 ⟨B26, s27, hD28, m29⟩ P
          have n53 := st.nn hD28
          replace st := st.go s27 go0
          replace w := s27.ok
          replace P := P.un2
          obtain ⟨B58, e54, k55, g56, r57⟩ := Mu.keep m29
          replace st := g56 _ _ _ st w0 n53
          replace w := st.ok
          replace r57 : Rep K B58 (.ref Dl17) (enc acc23) := r57
          refine h_nil ?_
          obtain ⟨p59, xs60, hv, hs61, hr62⟩ := Rep.sq w r57
          cases hv
          refine h_all hs61 hr62 ?_
          exact P.ok _ _ _ st (Rep.bl _)
theorem ok_law {f : Addr} {fd : FuncData}  (F : Fun K "law" "law" s_law f fd) (c_HEAD : CI mg "HEAD" 1) (c_PIECE : CI mg "PIECE" 2) (c_INDEX : CI mg "INDEX" 3) {f__law_head : Addr} {d__law_head : FuncData} (g__law_head : mg "_law_head" = some (.ref f__law_head)) (k__law_head : PySem.W.keepIn K (.ref f__law_head) = true) (b__law_head : L2.Binds K d__law_head ["_law_state"] []) (G__law_head : FnOk Pr wo K mg base CX0 5 f__law_head d__law_head ["_law_state"] (sp__law_head K)) {f__law_all_figures : Addr} {d__law_all_figures : FuncData} (g__law_all_figures : mg "_law_all_figures" = some (.ref f__law_all_figures)) (k__law_all_figures : PySem.W.keepIn K (.ref f__law_all_figures) = true) (b__law_all_figures : L2.Binds K d__law_all_figures ["_law_numbers"] []) (G__law_all_figures : FnOk Pr wo K mg base CX0 2 f__law_all_figures d__law_all_figures ["_law_numbers"] (sp__law_all_figures K)) {f__law_head_numbers : Addr} {d__law_head_numbers : FuncData} (g__law_head_numbers : mg "_law_head_numbers" = some (.ref f__law_head_numbers)) (k__law_head_numbers : PySem.W.keepIn K (.ref f__law_head_numbers) = true) (b__law_head_numbers : L2.Binds K d__law_head_numbers ["_law_head_here"] []) (G__law_head_numbers : FnOk Pr wo K mg base CX0 2 f__law_head_numbers d__law_head_numbers ["_law_head_here"] (sp__law_head_numbers K)) {f__law_kept : Addr} {d__law_kept : FuncData} (g__law_kept : mg "_law_kept" = some (.ref f__law_kept)) (k__law_kept : PySem.W.keepIn K (.ref f__law_kept) = true) (b__law_kept : L2.Binds K d__law_kept ["_law_head_here"] []) (G__law_kept : FnOk Pr wo K mg base CX0 1 f__law_kept d__law_kept ["_law_head_here"] (sp__law_kept K)) {f_head_body : Addr} {d_head_body : FuncData} (g_head_body : mg "head_body" = some (.ref f_head_body)) (k_head_body : PySem.W.keepIn K (.ref f_head_body) = true) (b_head_body : L2.Binds K d_head_body ["head"] []) (G_head_body : FnOk Pr wo K mg base (L2.CX Pr wo) 9 f_head_body d_head_body ["head"] (sp_head_body K mg)) {f_read_head : Addr} {d_read_head : FuncData} (g_read_head : mg "read_head" = some (.ref f_read_head)) (k_read_head : PySem.W.keepIn K (.ref f_read_head) = true) (b_read_head : L2.Binds K d_read_head ["body"] []) (G_read_head : FnOk Pr wo K mg base (L2.CX Pr wo) 11 f_read_head d_read_head ["body"] (sp_read_head K mg)) {f__law_no_head : Addr} {d__law_no_head : FuncData} (g__law_no_head : mg "_law_no_head" = some (.ref f__law_no_head)) (k__law_no_head : PySem.W.keepIn K (.ref f__law_no_head) = true) (b__law_no_head : L2.Binds K d__law_no_head ["_law_state", "_law_head_here"] []) (G__law_no_head : FnOk Pr wo K mg base CX0 4 f__law_no_head d__law_no_head ["_law_state", "_law_head_here"] (sp__law_no_head K)) {f__law_kinds : Addr} {d__law_kinds : FuncData} (g__law_kinds : mg "_law_kinds" = some (.ref f__law_kinds)) (k__law_kinds : PySem.W.keepIn K (.ref f__law_kinds) = true) (b__law_kinds : L2.Binds K d__law_kinds ["_law_head_here"] []) (G__law_kinds : FnOk Pr wo K mg base CX0 1 f__law_kinds d__law_kinds ["_law_head_here"] (sp__law_kinds K)) {f__law_digit : Addr} {d__law_digit : FuncData} (g__law_digit : mg "_law_digit" = some (.ref f__law_digit)) (k__law_digit : PySem.W.keepIn K (.ref f__law_digit) = true) (b__law_digit : L2.Binds K d__law_digit ["_law_state", "_law_base"] []) (G__law_digit : FnOk Pr wo K mg base CX0 1 f__law_digit d__law_digit ["_law_state", "_law_base"] (sp__law_digit K)) {f__law_refused__head_body : Addr} {d__law_refused__head_body : FuncData} (g__law_refused__head_body : mg "_law_refused" = some (.ref f__law_refused__head_body)) (k__law_refused__head_body : PySem.W.keepIn K (.ref f__law_refused__head_body) = true) (b__law_refused__head_body : L2.Binds K d__law_refused__head_body ["_law_ask", "_law_thing"] []) (G__law_refused__head_body : FnOk Pr wo K mg base CX0 10 f__law_refused__head_body d__law_refused__head_body ["_law_ask", "_law_thing"] (sp__law_refused__head_body K f_head_body)) {f__law_refused__read_head : Addr} {d__law_refused__read_head : FuncData} (g__law_refused__read_head : mg "_law_refused" = some (.ref f__law_refused__read_head)) (k__law_refused__read_head : PySem.W.keepIn K (.ref f__law_refused__read_head) = true) (b__law_refused__read_head : L2.Binds K d__law_refused__read_head ["_law_ask", "_law_thing"] []) (G__law_refused__read_head : FnOk Pr wo K mg base CX0 12 f__law_refused__read_head d__law_refused__read_head ["_law_ask", "_law_thing"] (sp__law_refused__read_head K f_read_head)) (bI_range : mg "range" = none) (bI_isinstance : mg "isinstance" = none) (bI_list : mg "list" = none) (bI_tuple : mg "tuple" = none) : FnOk Pr wo K mg base CX0 13 f fd ["_law_script"] (sp_law K) := by
  refine F.ok sc_law (fun vs H Q E h => ?_) (fun cdv A outer s H0 vs Q E hr h => ?_)
  · obtain ⟨_, _, _, _, rfl, _⟩ := h; rfl
  · obtain ⟨B0, v_script, a_script, w, rfl, r_script, P⟩ := h
    have w0 := w
    have hu := hu_of hr
    have hu64 := hu64_of hr
    have hu65 := hu65_of hr
    have hr1 : Room 1 _ := hr.mono (by decide)
    have hr2 : Room 2 _ := hr.mono (by decide)
    have hr4 : Room 4 _ := hr.mono (by decide)
    have hr5 : Room 5 _ := hr.mono (by decide)
    have hr9 : Room 9 _ := hr.mono (by decide)
    have hr10 : Room 10 _ := hr.mono (by decide)
    have hr11 : Room 11 _ := hr.mono (by decide)
    have hr12 : Room 12 _ := hr.mono (by decide)
    refine ⟨_, (pss_cons (ps_if (pt_cmpR (r := rNeD K) (op_neD hu64) (pe_tup (pa_cons (pe_globI (i := 1) (by rfl) c_HEAD) (pa_cons (pe_globI (i := 2) (by rfl) c_PIECE) (pa_cons (pe_globI (i := 3) (by rfl) c_INDEX) pa_nil)))) (pe_tup (pa_cons pe_int (pa_cons pe_int (pa_cons pe_int pa_nil)))) (nomark _)) (pss_one (ps_ret pe_bl)) pss_nil)
      (pss_cons (ps_for PassesOwn.never rfl (pi_list (pe_op (r := rCatQ K) op_catQ (pe_slice (r := rSlQ K) sl_Q (pv 0) po_none (po_some pe_int)) (pe_lst (pa_cons pe_int (pa_cons pe_int pa_nil))))) (pg_name (i := 1) sc_law.nd rfl (by first | exact Or.inl rfl | exact Or.inr rfl)) (pss_cons (ps_set (i := 2) sc_law.nd rfl (by first | exact Or.inl rfl | exact Or.inr rfl) (pe_lst (pa_cons (pv 1) pa_nil)))
      (pss_cons (ps_set (i := 3) sc_law.nd rfl (by first | exact Or.inl rfl | exact Or.inr rfl) (pe_call G__law_head hr5 rfl g__law_head k__law_head b__law_head .nil pass0 (pa_cons (pv 2) pa_nil)))
      (pss_cons (ps_set (i := 4) sc_law.nd rfl (by first | exact Or.inl rfl | exact Or.inr rfl) (pe_call G__law_all_figures hr2 rfl g__law_all_figures k__law_all_figures b__law_all_figures .nil pass0 (pa_cons (pe_call G__law_head_numbers hr2 rfl g__law_head_numbers k__law_head_numbers b__law_head_numbers .nil pass0 (pa_cons (pv 3) pa_nil)) pa_nil)))
      (pss_cons (ps_for PassesOwn.never rfl (pi_range1 (by rfl) bI_range (pa_cons pe_int pa_nil)) (pg_name (i := 5) sc_law.nd rfl (by first | exact Or.inl rfl | exact Or.inr rfl)) (pss_cons (ps_set (i := 6) sc_law.nd rfl (by first | exact Or.inl rfl | exact Or.inr rfl) (pe_call G__law_kept hr1 rfl g__law_kept k__law_kept b__law_kept .nil pass0 (pa_cons (pv 3) pa_nil)))
      (pss_cons (ps_set (i := 7) sc_law.nd rfl (by first | exact Or.inl rfl | exact Or.inr rfl) (pe_call G_head_body hr9 rfl g_head_body k_head_body b_head_body .nil passL (pa_cons (pv 6) pa_nil)))
      (pss_cons (ps_if (PW.pt (pw_or (pt_not (pt_val (pe_callB (r := rIsi K) call_isi (by rfl) bI_isinstance PyProof.Rows.boot_isinstance (pa_cons (pv 7) (pa_cons (pe_bltn (v := .ty "list") (by rfl) bI_list Y.boot_list rfl) pa_nil))))) (pw_or (pt_cmpR (r := rNeD K) (op_neD hu64) (pv 7) (pv 4) (nomark _)) (pw_or1 (pt_cmpR (r := rNeD K) (op_neD hu64) (pv 6) (pv 3) (nomark _)))))) (pss_one (ps_ret pe_bl)) pss_nil)
      (pss_cons (ps_set (i := 8) sc_law.nd rfl (by first | exact Or.inl rfl | exact Or.inr rfl) (pe_call G_read_head hr11 rfl g_read_head k_read_head b_read_head .nil passL (pa_cons (pv 7) pa_nil)))
      (pss_cons (ps_if (PW.pt (pw_or (pt_cmpR (r := rNeD K) (op_neD hu64) (pv 8) (pv 3) (nomark _)) (pw_or (pt_not (pt_val (pe_call G__law_kinds hr1 rfl g__law_kinds k__law_kinds b__law_kinds .nil pass0 (pa_cons (pv 8) pa_nil)))) (pw_or1 (pt_cmpR (r := rNeD K) (op_neD hu64) (pv 7) (pv 4) (nomark _)))))) (pss_one (ps_ret pe_bl)) pss_nil)
      (pss_cons (ps_expr (pe_bm PySem.F.plainAttrs_list PySem.F.slot_list_append PySem.F.type_list_append mt_append (pe_ix (r := rIxT K) ix_tup (pe_ix (r := rIxL K) ix_list (pe_ix (r := rIxT K) ix_tup (pv 8) pe_int (fun _ _ => rfl)) pe_int (fun _ _ => rfl)) pe_int (fun _ _ => rfl)) (pa_cons pe_int pa_nil)))
      (pss_cons (ps_expr (pe_bm PySem.F.plainAttrs_list PySem.F.slot_list_append PySem.F.type_list_append mt_append (pe_ix (r := rIxT K) ix_tup (pv 8) pe_int (fun _ _ => rfl)) (pa_cons pe_non pa_nil)))
      (pss_cons (ps_expr (pe_bm PySem.F.plainAttrs_list PySem.F.slot_list_append PySem.F.type_list_append mt_append (pv 7) (pa_cons pe_int pa_nil)))
      (pss_cons (ps_if (PW.pt (pw_or (pt_not (pt_val (pe_call G__law_refused__read_head hr12 rfl g__law_refused__read_head k__law_refused__read_head b__law_refused__read_head .nil pass0 (pa_cons (pe_glob (v := .ref f_read_head) (by rfl) g_read_head rfl) (pa_cons (pv 7) pa_nil))))) (pw_or1 (pt_not (pt_val (pe_call G__law_refused__read_head hr12 rfl g__law_refused__read_head k__law_refused__read_head b__law_refused__read_head .nil pass0 (pa_cons (pe_glob (v := .ref f_read_head) (by rfl) g_read_head rfl) (pa_cons (pe_slice (r := rSlQ K) sl_Q (pv 4) po_none (po_some (pe_un un_neg pe_int))) pa_nil)))))))) (pss_one (ps_ret pe_bl)) pss_nil)
      (pss_one (ps_expr (pe_bm0 PySem.F.plainAttrs_list PySem.F.slot_list_clear PySem.F.type_list_clear mt_clear (pv 7))))))))))))))
      (pss_cons (ps_if (pt_not (pt_val (pe_call G__law_refused__head_body hr10 rfl g__law_refused__head_body k__law_refused__head_body b__law_refused__head_body .nil pass0 (pa_cons (pe_glob (v := .ref f_head_body) (by rfl) g_head_body rfl) (pa_cons (pe_call G__law_no_head hr4 rfl g__law_no_head k__law_no_head b__law_no_head .nil pass0 (pa_cons (pv 2) (pa_cons (pv 3) pa_nil))) pa_nil))))) (pss_one (ps_ret pe_bl)) pss_nil)
      (pss_one (ps_if (pt_not (pt_val (pe_call G__law_refused__read_head hr12 rfl g__law_refused__read_head k__law_refused__read_head b__law_refused__read_head .nil pass0 (pa_cons (pe_glob (v := .ref f_read_head) (by rfl) g_read_head rfl) (pa_cons (pe_ix (r := rIxL K) ix_list (pe_lst (pa_cons pe_non (pa_cons pe_str (pa_cons (pe_callTy (r := rTupY K) cr_tuple (by rfl) bI_tuple Y.boot_tuple (pa_cons (pv 4) pa_nil)) (pa_cons pe_dnewK (pa_cons pe_int (pa_cons (pe_lst (pa_cons pe_int pa_nil)) (pa_cons (pe_lst (pa_cons pe_non pa_nil)) pa_nil)))))))) (pe_call G__law_digit hr1 rfl g__law_digit k__law_digit b__law_digit .nil pass0 (pa_cons (pv 2) (pa_cons pe_int pa_nil))) (fun _ _ => rfl)) pa_nil))))) (pss_one (ps_ret pe_bl)) pss_nil))))))))
      (pss_one (ps_ret pe_bl)))), ?_⟩
    unfold m_law at P
    have st := Stp.refl (W := []) w
    refine h_seq <| h_if ?_
    refine h_test ?_
    refine h_op ?_
    refine h_tup ?_
    refine h_cons ?_
    refine h_c ?_
    refine h_cons ?_
    refine h_c ?_
    refine h_cons ?_
    refine h_c ?_
    refine h_nil ?_
    refine h_newT w (K := K) (.cons (Rep.int _) (.cons (Rep.int _) (.cons (Rep.int _) .nil))) (fun p1 B2 H3 s4 r5 => ?_) (by show 3 ≤ sizeLine; decide)
    replace st := st.go s4 go0
    replace w := s4.ok
    replace r5 : Rep K B2 (.ref p1) (enc (⟨1, 2, 3⟩ : (Tp3 Int Int Int))) := r5
    refine h_tup ?_
    refine h_cons ?_
    refine h_c ?_
    refine h_cons ?_
    refine h_c ?_
    refine h_cons ?_
    refine h_c ?_
    refine h_nil ?_
    refine h_newT w (K := K) (.cons (Rep.int _) (.cons (Rep.int _) (.cons (Rep.int _) .nil))) (fun p6 B7 H8 s9 r10 => ?_) (by show 3 ≤ sizeLine; decide)
    replace r5 := r5.mono s9.ex
    replace st := st.go s9 go0
    replace w := s9.ok
    replace r10 : Rep K B7 (.ref p6) (enc (⟨1, 2, 3⟩ : (Tp3 Int Int Int))) := r10
    obtain ⟨gd, P⟩ := P.guard
    refine h_neD (d := (enc (⟨1, 2, 3⟩ : (Tp3 Int Int Int)))) (e := (enc (⟨1, 2, 3⟩ : (Tp3 Int Int Int)))) w r5 r10 gd ?_
    refine h_bl ?_
    refine h_ite (fun c1 => ?_) (fun c1 => ?_)
    · replace P := P.iteT c1
      refine h_ret ?_
      refine h_c ?_
      exact P.ok _ _ _ st (Rep.bl _)
    · replace P := P.iteF c1
      refine h_next ?_
      refine h_nx ?_
      refine h_seq ?_
      refine h_forE ?_
      refine h_op ?_
      refine h_sl ?_
      refine h_var rfl ?_
      refine h_nopart ?_
      refine h_part ?_
      refine h_c ?_
      refine h_isI ?_
      obtain ⟨p11, xs12, rfl, hs13, hr14⟩ := Bor.sq (r_script.step st)
      refine h_slQ hs13 ?_
      refine h_nwL w (ds := ((cutL a_script none (some 8))).map enc) (K := K) (hr14.cut none (some 8)) (fun p15 B16 H17 s18 r19 => ?_) 
      replace st := st.go s18 go0
      replace w := s18.ok
      replace r19 : Rep K B16 (.ref p15) (enc (cutL a_script none (some 8))) := r19
      refine h_lst ?_
      refine h_cons ?_
      refine h_c ?_
      refine h_cons ?_
      refine h_c ?_
      refine h_nil ?_
      refine h_newL w (ds := (([0, 1] : List Int)).map enc) (K := K) (.cons (Rep.int _) (.cons (Rep.int _) .nil)) (fun p20 B21 H22 s23 r24 => ?_) (by show 2 ≤ sizeLine; decide)
      replace r19 := r19.mono s23.ex
      replace st := st.go s23 go0
      replace w := s23.ok
      replace r24 : Rep K B21 (.ref p20) (enc ([0, 1] : List Int)) := r24
      obtain ⟨p25, xs26, hv, hs27, hr28⟩ := Rep.sq w r19
      cases hv
      obtain ⟨p29, xs30, hv, hs31, hr32⟩ := Rep.sq w r24
      cases hv
      obtain ⟨gd, P⟩ := P.guard
      refine h_cat hs27 hs31 (by have g := gd; simp only [hr28.length, hr32.length, List.length_map] at g ⊢; exact Nat.le_trans g (by decide)) ?_
      refine h_nwL w (ds := (((cutL a_script none (some 8)) ++ ([0, 1] : List Int))).map enc) (K := K) (RepL.cat hr28 hr32) (fun p33 B34 H35 s36 r37 => ?_) 
      replace st := st.go s36 go0
      replace w := s36.ok
      replace r37 : Rep K B34 (.ref p33) (enc ((cutL a_script none (some 8)) ++ ([0, 1] : List Int))) := r37
      obtain ⟨p38, xs39, hv, hb40, hr41⟩ := Rep.sqB r37
      cases hv
      have wj43 := w
      have sj42 := Stp.refl (W := []) w
      refine h_forL P (w.l hb40) hr41 (fun (a : Unit) σ' H' => ∃ (B' : Hp) (o__law_state : Option V) (o__law_head_here : Option V) (o__law_due : Option V) (o__law_turn : Option V) (o__law_handed : Option V) (o__law_there : Option V) (o__law_found : Option V) (o__law_cell : Option V), Stp [] B34 H35 B' H' ∧ σ' = [some ((.ref p11)), o__law_cell, o__law_state, o__law_head_here, o__law_due, o__law_turn, o__law_handed, o__law_there, o__law_found]) ⟨_, _, _, _, _, _, _, _, _, sj42, rfl⟩ (fun _ _ _ j => ?_) ?_ ?_
      · obtain ⟨B53, o56, o57, o58, o59, o60, o61, o62, o63, s55, rfl⟩ := j
        exact s55.ok.l (s55.ex.l hb40)
      · rintro N44 T45 x50 v51 a49 _ H54 ⟨B53, o56, o57, o58, o59, o60, o61, o62, o63, s55, rfl⟩ r52 kk46 kr47 kb48 P
        replace st := st.go s55 go0
        replace w := s55.ok
        have sj42 := s55
        replace r52 := r52.mono sj42.ex
        cases r52
        refine h_gname ?_
        refine h_set ?_
        refine h_lst ?_
        refine h_cons ?_
        refine h_var rfl ?_
        refine h_nil ?_
        refine h_newM w (ds := (([x50] : List Int)).map enc) (K := K) (.cons (Rep.int _) .nil) (fun p64 H65 hn68 s66 m67 => ?_) (by show 1 ≤ sizeLine; decide)
        have n69 := st.nn hn68
        have n70 := sj42.nn hn68
        replace st := st.go s66 go0
        replace sj42 := sj42.go s66 go0
        replace w := s66.ok
        refine h_set ?_
        refine h_call ?_
        refine h_cons ?_
        refine h_var rfl ?_
        refine h_nil ?_
        refine ⟨B53, p64, ([x50] : List Int), w, rfl, m67, (P.bind).mono (fun x71 P => ?_) (fun _ z => z)⟩
        refine fun v75 B72 H73 s74 m67 r76 => ?_
        replace st := st.go s74 (go1 (.inr n69))
        replace sj42 := sj42.go s74 (go1 (.inr n70))
        replace w := s74.ok
        refine h_set ?_
        refine h_call ?_
        refine h_cons ?_
        refine h_call ?_
        refine h_cons ?_
        refine h_var rfl ?_
        refine h_nil ?_
        refine ⟨B72, v75, x71.1, w, rfl, r76, (P.bind).mono (fun x77 P => ?_) (fun _ z => z)⟩
        refine fun v81 B78 H79 s80 r82 => ?_
        replace m67 := m67.step s80 nm0
        replace r76 := r76.mono s80.ex
        replace st := st.go s80 go0
        replace sj42 := sj42.go s80 go0
        replace w := s80.ok
        refine h_nil ?_
        refine ⟨B78, v81, x77, w, rfl, r82, (P.bind).mono (fun x83 P => ?_) (fun _ z => z)⟩
        refine fun v87 B84 H85 s86 r88 => ?_
        replace m67 := m67.step s86 nm0
        replace r76 := r76.mono s86.ex
        replace r82 := r82.mono s86.ex
        replace st := st.go s86 go0
        replace sj42 := sj42.go s86 go0
        replace w := s86.ok
        refine h_seq ?_
        refine h_rng1 ?_
        refine h_cons ?_
        refine h_c ?_
        refine h_nil ?_
        have gz89 : (-(2 ^ 62) ≤ (2 : Int) ∧ (2 : Int) < 2 ^ 62) := by decide
        have wj91 := w
        have sj90 := Stp.refl (W := []) w
        refine h_forR1 P gz89 (fun (a : Unit) σ' H' => ∃ (B' : Hp) (o__law_handed : Option V) (o__law_there : Option V) (o__law_found : Option V) (o__law_turn : Option V), Stp [] B84 H85 B' H' ∧ σ' = [some ((.ref p11)), some (.int x50), some ((.ref p64)), some (v75), some (v87), o__law_turn, o__law_handed, o__law_there, o__law_found]) ⟨_, _, _, _, _, sj90, rfl⟩ ?_ ?_
        · rintro N92 T93 x98 a97 _ H102 ⟨B101, o104, o105, o106, o107, s103, rfl⟩ hlox98 hhix98 kk94 kr95 kb96 P
          replace m67 := m67.step s103 nm0
          replace r76 := r76.mono s103.ex
          replace r88 := r88.mono s103.ex
          replace st := st.go s103 go0
          replace sj42 := sj42.go s103 go0
          replace w := s103.ok
          have sj90 := s103
          refine h_gname ?_
          refine h_set ?_
          refine h_call ?_
          refine h_cons ?_
          refine h_var rfl ?_
          refine h_nil ?_
          refine ⟨B101, v75, x71.1, w, rfl, r76, (P.bind).mono (fun x108 P => ?_) (fun _ z => z)⟩
          refine fun v112 B109 H110 s111 r113 => ?_
          replace m67 := m67.step s111 nm0
          replace r76 := r76.mono s111.ex
          replace r88 := r88.mono s111.ex
          replace st := st.go s111 go0
          replace sj42 := sj42.go s111 go0
          replace sj90 := sj90.go s111 go0
          replace w := s111.ok
          refine h_set ?_
          refine h_call ?_
          refine h_cons ?_
          refine h_var rfl ?_
          refine h_nil ?_
          refine ⟨B109, v112, (enc x108), w, rfl, r113, (P.bind.noErr).mono (fun x114 P => ?_) (fun _ z => z.elim)⟩
          refine fun p120 B115 H116 s117 hn121 m122 => ?_
          have n124 := st.nn hn121
          have n125 := sj42.nn hn121
          have n126 := sj90.nn hn121
          have ne127 := Mu.ne m67 hn121
          replace m67 := m67.step s117 nm0
          replace r76 := r76.mono s117.ex
          replace r88 := r88.mono s117.ex
          replace r113 := r113.mono s117.ex
          replace st := st.go s117 go0
          replace sj42 := sj42.go s117 go0
          replace sj90 := sj90.go s117 go0
          replace w := s117.ok
          refine h_seq <| h_if ?_
          refine h_tor ?_
          refine h_tnot ?_
          refine h_tB ?_
          refine h_cb ?_
          refine h_cons ?_
          refine h_var rfl ?_
          refine h_cons ?_
          refine h_c ?_
          refine h_nil ?_
          obtain ⟨xs129, hv, hs130, hr131⟩ := Mu.sq m122
          refine isiL (t := "list") (l := x114.map enc) hs130 ?_
          refine h_bl ?_
          refine h_iteN (fun c1 => ?_) (fun c1 => ?_)
          · replace P := P.iteF c1
            refine h_iteT ?_
            refine h_ret ?_
            refine h_c ?_
            exact (kr47 _ (kr95 _ P.ok)) _ _ _ st (Rep.bl _)
          · replace P := P.iteT c1
            refine h_tor ?_
            refine h_test ?_
            refine h_op ?_
            refine h_var rfl ?_
            refine h_var rfl ?_
            obtain ⟨gd, P⟩ := P.guard
            obtain ⟨xs133, hv, hs134, hr135⟩ := Mu.sq m122
            refine h_neC (d := (enc x114)) (e := (enc x83)) (SqL.cp w hs134 hr135) (Rep.cp w r88) gd ?_
            refine h_bl ?_
            refine h_ite (fun c1 => ?_) (fun c1 => ?_)
            · replace P := P.iteT c1
              refine h_iteT ?_
              refine h_ret ?_
              refine h_c ?_
              exact (kr47 _ (kr95 _ P.ok)) _ _ _ st (Rep.bl _)
            · replace P := P.iteF c1
              refine h_test ?_
              refine h_op ?_
              refine h_var rfl ?_
              refine h_var rfl ?_
              obtain ⟨gd, P⟩ := P.guard
              refine h_neD (d := (enc x108)) (e := (enc x71.1)) w r113 r76 gd ?_
              refine h_bl ?_
              refine h_ite (fun c1 => ?_) (fun c1 => ?_)
              · replace P := P.iteT c1
                refine h_ret ?_
                refine h_c ?_
                exact (kr47 _ (kr95 _ P.ok)) _ _ _ st (Rep.bl _)
              · replace P := P.iteF c1
                refine h_next ?_
                refine h_nx ?_
                refine h_set ?_
                refine h_call ?_
                refine h_cons ?_
                refine h_var rfl ?_
                refine h_nil ?_
                have m67_s136 := m67
                have r76_s136 := r76
                have r88_s136 := r88
                have r113_s136 := r113
                have m122_s136 := m122
                have st_s136 := st
                have sj42_s136 := sj42
                have sj90_s136 := sj90
                have w_s136 := w
                have ex_s136 := Ex.refl B115
                obtain ⟨B141, e137, k138, g139, r140⟩ := Mu.keep m122
                replace st := g139 _ _ _ st w0 n124
                replace sj42 := g139 _ _ _ sj42 wj43 n125
                replace sj90 := g139 _ _ _ sj90 wj91 n126
                replace m67 := m67.kp e137 k138 ne127
                replace r76 := r76.mono e137
                replace r88 := r88.mono e137
                replace r113 := r113.mono e137
                replace w := st.ok
                replace r140 : Rep K B141 (.ref p120) (enc x114) := r140
                replace ex_s136 := ex_s136.trans e137
                have wj143 := w
                have sj142 := Stp.refl (W := []) w
                refine ⟨B141, (.ref p120), (enc x114), w, rfl, r140, (P.bind.noErr).mono (fun x144 P => ?_) (fun _ z => z.elim)⟩
                have nf150 := fun (p : Addr) (h : H116 p = none) => st.nn h
                refine fun v148 B145 H146 s147 rn151 => ?_
                have r149 := rn151.rep
                have rn151_h := rn151
                replace rn151 := rn151.ago nf150
                replace m67 := m67.step s147 nm0
                replace r76 := r76.mono s147.ex
                replace r88 := r88.mono s147.ex
                replace r113 := r113.mono s147.ex
                replace r140 := r140.mono s147.ex
                replace st := st.go s147 go0
                replace sj42 := sj42.go s147 go0
                replace sj90 := sj90.go s147 go0
                replace sj142 := sj142.go s147 go0
                replace w := s147.ok
                refine h_seq <| h_if ?_
                refine h_tor ?_
                refine h_test ?_
                refine h_op ?_
                refine h_var rfl ?_
                refine h_var rfl ?_
                obtain ⟨gd, P⟩ := P.guard
                refine h_neD (d := (enc x144)) (e := (enc x71.1)) w r149 r76 gd ?_
                refine h_bl ?_
                refine h_ite (fun c1 => ?_) (fun c1 => ?_)
                · replace P := P.iteT c1
                  refine h_iteT ?_
                  refine h_ret ?_
                  refine h_c ?_
                  exact (kr47 _ (kr95 _ P.ok)) _ _ _ st (Rep.bl _)
                · replace P := P.iteF c1
                  refine h_tor ?_
                  refine h_tnot ?_
                  refine h_tB ?_
                  refine h_call ?_
                  refine h_cons ?_
                  refine h_var rfl ?_
                  refine h_nil ?_
                  refine ⟨B145, v148, x144, w, rfl, r149, (P.bind).mono (fun x152 P => ?_) (fun _ z => z)⟩
                  refine fun v156 B153 H154 s155 r157 => ?_
                  replace m67 := m67.step s155 nm0
                  replace r76 := r76.mono s155.ex
                  replace r88 := r88.mono s155.ex
                  replace r113 := r113.mono s155.ex
                  replace r140 := r140.mono s155.ex
                  replace r149 := r149.mono s155.ex
                  replace rn151 := rn151.mono s155.ex
                  replace rn151_h := rn151_h.mono s155.ex
                  replace st := st.go s155 go0
                  replace sj42 := sj42.go s155 go0
                  replace sj90 := sj90.go s155 go0
                  replace sj142 := sj142.go s155 go0
                  replace w := s155.ok
                  cases r157
                  refine h_bl ?_
                  refine h_iteN (fun c1 => ?_) (fun c1 => ?_)
                  · replace P := P.iteF c1
                    refine h_iteT ?_
                    refine h_ret ?_
                    refine h_c ?_
                    exact (kr47 _ (kr95 _ P.ok)) _ _ _ st (Rep.bl _)
                  · replace P := P.iteT c1
                    refine h_test ?_
                    refine h_op ?_
                    refine h_var rfl ?_
                    refine h_var rfl ?_
                    obtain ⟨gd, P⟩ := P.guard
                    refine h_neD (d := (enc x114)) (e := (enc x83)) w r140 r88 gd ?_
                    refine h_bl ?_
                    refine h_ite (fun c1 => ?_) (fun c1 => ?_)
                    · replace P := P.iteT c1
                      refine h_ret ?_
                      refine h_c ?_
                      exact (kr47 _ (kr95 _ P.ok)) _ _ _ st (Rep.bl _)
                    · replace P := P.iteF c1
                      refine h_next ?_
                      refine h_nx ?_
                      obtain ⟨p158, xs159, ev160, ht161, hr162⟩ := RepN.tupE (show RepN K _ _ v148 (.tup [enc x144.a, enc x144.b, enc x144.c]) from rn151_h) (by simp [noLs, noL, Enc.enc])
                      cases ev160
                      obtain ⟨u163, hu164, rn165⟩ := RepNL.at hr162 (i := 2) rfl
                      obtain ⟨p166, xs167, ev168, hb169, hn170, hr171⟩ := RepN.lstE rn165
                      cases ev168
                      obtain ⟨x172, hx173, P⟩ := P.ix
                      obtain ⟨u174, hu175, rn176⟩ := RepNL.atE hr171 hx173
                      obtain ⟨p177, xs178, ev179, ht180, hr181⟩ := RepN.tupE (show RepN K _ _ u174 (.tup [enc x172.a, enc x172.b, enc x172.c]) from rn176) (by simp [noLs, noL, Enc.enc])
                      cases ev179
                      obtain ⟨u182, hu183, rn184⟩ := RepNL.at hr181 (i := 2) rfl
                      obtain ⟨p185, xs186, ev187, hb188, hn189, hr190⟩ := RepN.lstE rn184
                      cases ev187
                      obtain ⟨gd, P⟩ := P.guard
                      have hl191 : xs186.length < 1000000 := by rw [hr190.length, List.length_map]; exact gd
                      obtain ⟨gd, P⟩ := P.guard
                      have hl192 : xs167.length < 1000000 := by rw [hr171.length, List.length_map]; exact gd
                      refine h_seq ?_
                      refine h_drop ?_
                      refine h_bm ?_
                      refine h_op ?_
                      refine h_op ?_
                      refine h_op ?_
                      refine h_var rfl ?_
                      refine h_c (h_ixT (w.t ht161) hu164 ?_)
                      refine h_c (h_ixL (SqL.of (w _ _ hb169)) hu175 ?_)
                      refine h_c (h_ixT (w.t ht180) hu183 ?_)
                      refine h_bmR (w _ _ hb188) ?_
                      refine h_cons (h_c (h_nil ?_))
                      refine h_appRw (w _ _ hb188) hl191 (sj142.back2 ex_s136) w_s136 (upd_nn hn189).2 fun H193 s194 e195 => ?_
                      refine h_nx ?_
                      refine h_seq ?_
                      have hq196 := (e195 _ (Ne.symm (upd_nn hn189).1)).trans (w _ _ hb169)
                      refine h_drop ?_
                      refine h_bm ?_
                      refine h_op ?_
                      refine h_var rfl ?_
                      refine h_c (h_ixT (SqT.but (w.t ht161) (w _ _ hb188) e195) hu164 ?_)
                      refine h_bmR hq196 ?_
                      refine h_cons (h_c (h_nil ?_))
                      refine h_appRv hq196 hl192 s194 w_s136 hn170 fun H197 s198 e199 => ?_
                      replace st := st_s136.go s198 go0
                      replace sj42 := sj42_s136.go s198 go0
                      replace sj90 := sj90_s136.go s198 go0
                      replace w := s198.ok
                      have m67 := m67_s136.step s198 nm0
                      have r76 := r76_s136
                      have r88 := r88_s136
                      have r113 := r113_s136
                      have m122 := m122_s136.step s198 nm0
                      refine h_nx ?_
                      refine h_seq ?_
                      refine h_drop ?_
                      refine h_bm ?_
                      refine h_var rfl ?_
                      refine h_bmL m122 ?_
                      refine h_cons ?_
                      refine h_c ?_
                      refine h_nil ?_
                      obtain ⟨gd, P⟩ := P.guard
                      refine h_append (b := 0) w m122 (Rep.int _) gd (fun H200 s201 m122 => ?_)
                      replace m67 := m67.step s201 (nm1 ne127)
                      replace r76 := r76.mono s201.ex
                      replace r88 := r88.mono s201.ex
                      replace r113 := r113.mono s201.ex
                      replace st := st.go s201 (go1 (.inr n124))
                      replace sj42 := sj42.go s201 (go1 (.inr n125))
                      replace sj90 := sj90.go s201 (go1 (.inr n126))
                      replace w := s201.ok
                      refine h_nx ?_
                      refine h_seq <| h_if ?_
                      refine h_tor ?_
                      refine h_tnot ?_
                      refine h_tB ?_
                      refine h_call ?_
                      refine h_cons ?_
                      refine h_c ?_
                      refine h_cons ?_
                      refine h_var rfl ?_
                      refine h_nil ?_
                      have m67_s202 := m67
                      have r76_s202 := r76
                      have r88_s202 := r88
                      have r113_s202 := r113
                      have m122_s202 := m122
                      have st_s202 := st
                      have sj42_s202 := sj42
                      have sj90_s202 := sj90
                      have w_s202 := w
                      have ex_s202 := Ex.refl B115
                      obtain ⟨B207, e203, k204, g205, r206⟩ := Mu.keep m122
                      replace st := g205 _ _ _ st w0 n124
                      replace sj42 := g205 _ _ _ sj42 wj43 n125
                      replace sj90 := g205 _ _ _ sj90 wj91 n126
                      replace m67 := m67.kp e203 k204 ne127
                      replace r76 := r76.mono e203
                      replace r88 := r88.mono e203
                      replace r113 := r113.mono e203
                      replace w := st.ok
                      replace r206 : Rep K B207 (.ref p120) (enc (x114 ++ [0])) := r206
                      replace ex_s202 := ex_s202.trans e203
                      have wj209 := w
                      have sj208 := Stp.refl (W := []) w
                      refine ⟨B207, (.ref p120), (enc (x114 ++ [0])), w, rfl, r206, (P.bind).mono (fun x210 P => ?_) (fun _ z => z)⟩
                      refine fun v214 B211 H212 s213 r215 => ?_
                      replace m67 := m67.step s213 nm0
                      replace r76 := r76.mono s213.ex
                      replace r88 := r88.mono s213.ex
                      replace r113 := r113.mono s213.ex
                      replace r206 := r206.mono s213.ex
                      replace st := st.go s213 go0
                      replace sj42 := sj42.go s213 go0
                      replace sj90 := sj90.go s213 go0
                      replace sj208 := sj208.go s213 go0
                      replace w := s213.ok
                      cases r215
                      have sk216 := sj208.back2 ex_s202
                      replace st := st_s202.go sk216 go0
                      replace sj42 := sj42_s202.go sk216 go0
                      replace sj90 := sj90_s202.go sk216 go0
                      replace w := sk216.ok
                      have m67 := m67_s202.step sk216 nm0
                      have r76 := r76_s202
                      have r88 := r88_s202
                      have r113 := r113_s202
                      have m122 := m122_s202.step sk216 nm0
                      refine h_bl ?_
                      refine h_iteN (fun c1 => ?_) (fun c1 => ?_)
                      · replace P := P.iteF c1
                        refine h_iteT ?_
                        refine h_ret ?_
                        refine h_c ?_
                        exact (kr47 _ (kr95 _ P.ok)) _ _ _ st (Rep.bl _)
                      · replace P := P.iteT c1
                        refine h_tnot ?_
                        refine h_tB ?_
                        refine h_call ?_
                        refine h_cons ?_
                        refine h_c ?_
                        refine h_cons ?_
                        refine h_sl ?_
                        refine h_var rfl ?_
                        refine h_nopart ?_
                        refine h_part ?_
                        refine h_un ?_
                        refine h_c ?_
                        refine h_U ?_
                        refine h_isI ?_
                        obtain ⟨p217, xs218, rfl, hs219, hr220⟩ := Rep.sq w r88
                        refine h_slQ hs219 ?_
                        refine h_nwL w (ds := ((cutL x83 none (some (-1)))).map enc) (K := K) (hr220.cut none (some (-1))) (fun p221 B222 H223 s224 r225 => ?_) 
                        replace m67 := m67.step s224 nm0
                        replace r76 := r76.mono s224.ex
                        replace r88 := r88.mono s224.ex
                        replace r113 := r113.mono s224.ex
                        replace m122 := m122.step s224 nm0
                        replace st := st.go s224 go0
                        replace sj42 := sj42.go s224 go0
                        replace sj90 := sj90.go s224 go0
                        replace w := s224.ok
                        replace r225 : Rep K B222 (.ref p221) (enc (cutL x83 none (some (-1)))) := r225
                        refine h_nil ?_
                        refine ⟨B222, (.ref p221), (enc (cutL x83 none (some (-1)))), w, rfl, r225, (P.bind).mono (fun x226 P => ?_) (fun _ z => z)⟩
                        refine fun v230 B227 H228 s229 r231 => ?_
                        replace m67 := m67.step s229 nm0
                        replace r76 := r76.mono s229.ex
                        replace r88 := r88.mono s229.ex
                        replace r113 := r113.mono s229.ex
                        replace m122 := m122.step s229 nm0
                        replace r225 := r225.mono s229.ex
                        replace st := st.go s229 go0
                        replace sj42 := sj42.go s229 go0
                        replace sj90 := sj90.go s229 go0
                        replace w := s229.ok
                        cases r231
                        refine h_bl ?_
                        refine h_iteN (fun c1 => ?_) (fun c1 => ?_)
                        · replace P := P.iteF c1
                          refine h_ret ?_
                          refine h_c ?_
                          exact (kr47 _ (kr95 _ P.ok)) _ _ _ st (Rep.bl _)
                        · replace P := P.iteT c1
                          refine h_next ?_
                          refine h_nx ?_
                          refine h_drop ?_
                          refine h_bm0 ?_
                          refine h_var rfl ?_
                          refine h_bmL0 m122 ?_
                          refine h_clear w m122 (fun H232 s233 m122 => ?_)
                          replace m67 := m67.step s233 (nm1 ne127)
                          replace r76 := r76.mono s233.ex
                          replace r88 := r88.mono s233.ex
                          replace r113 := r113.mono s233.ex
                          replace st := st.go s233 (go1 (.inr n124))
                          replace sj42 := sj42.go s233 (go1 (.inr n125))
                          replace sj90 := sj90.go s233 (go1 (.inr n126))
                          replace w := s233.ok
                          refine h_nx ?_
                          exact kk94 () _ _ ⟨_, _, _, _, _, sj90, rfl⟩ P.ok
        · rintro a234 _ H236 ⟨B235, o238, o239, o240, o241, s237, rfl⟩ P
          replace m67 := m67.step s237 nm0
          replace r76 := r76.mono s237.ex
          replace r88 := r88.mono s237.ex
          replace st := st.go s237 go0
          replace sj42 := sj42.go s237 go0
          replace w := s237.ok
          refine h_nx ?_
          refine h_seq <| h_if ?_
          refine h_tnot ?_
          refine h_tB ?_
          refine h_call ?_
          refine h_cons ?_
          refine h_c ?_
          refine h_cons ?_
          refine h_call ?_
          refine h_cons ?_
          refine h_var rfl ?_
          refine h_cons ?_
          refine h_var rfl ?_
          refine h_nil ?_
          refine ⟨B235, p64, x71.2, v75, x71.1, w, rfl, m67, r76, (P.bind).mono (fun x242 P => ?_) (fun _ z => z)⟩
          refine fun v246 B243 H244 s245 m67 r247 => ?_
          replace r76 := r76.mono s245.ex
          replace r88 := r88.mono s245.ex
          replace st := st.go s245 (go1 (.inr n69))
          replace sj42 := sj42.go s245 (go1 (.inr n70))
          replace w := s245.ok
          refine h_nil ?_
          refine ⟨B243, v246, x242.1, w, rfl, r247, (P.bind).mono (fun x248 P => ?_) (fun _ z => z)⟩
          refine fun v252 B249 H250 s251 r253 => ?_
          replace m67 := m67.step s251 nm0
          replace r76 := r76.mono s251.ex
          replace r88 := r88.mono s251.ex
          replace r247 := r247.mono s251.ex
          replace st := st.go s251 go0
          replace sj42 := sj42.go s251 go0
          replace w := s251.ok
          cases r253
          refine h_bl ?_
          refine h_iteN (fun c1 => ?_) (fun c1 => ?_)
          · replace P := P.iteF c1
            refine h_ret ?_
            refine h_c ?_
            exact (kr47 _ P.ok) _ _ _ st (Rep.bl _)
          · replace P := P.iteT c1
            refine h_next ?_
            refine h_nx ?_
            refine h_if ?_
            refine h_tnot ?_
            refine h_tB ?_
            refine h_call ?_
            refine h_cons ?_
            refine h_c ?_
            refine h_cons ?_
            refine h_op ?_
            refine h_lst ?_
            refine h_cons ?_
            refine h_c ?_
            refine h_cons ?_
            refine h_c ?_
            refine h_cons ?_
            refine h_cb ?_
            refine h_cons ?_
            refine h_var rfl ?_
            refine h_nil ?_
            obtain ⟨p254, xs255, rfl, hs256, hr257⟩ := Rep.sq w r88
            refine h_tupL hs256 (h_nwT w (K := K) hr257 (fun p258 B259 H260 s261 r262 => ?_))
            replace m67 := m67.step s261 nm0
            replace r76 := r76.mono s261.ex
            replace r88 := r88.mono s261.ex
            replace st := st.go s261 go0
            replace sj42 := sj42.go s261 go0
            replace w := s261.ok
            refine h_cons ?_
            refine h_dnew w (K := K) (fun p263 B264 H265 s266 r267 => ?_)
            replace m67 := m67.step s266 nm0
            replace r76 := r76.mono s266.ex
            replace r88 := r88.mono s266.ex
            replace r262 := r262.mono s266.ex
            replace st := st.go s266 go0
            replace sj42 := sj42.go s266 go0
            replace w := s266.ok
            refine h_cons ?_
            refine h_c ?_
            refine h_cons ?_
            refine h_lst ?_
            refine h_cons ?_
            refine h_c ?_
            refine h_nil ?_
            refine h_newL w (ds := (([256] : List Int)).map enc) (K := K) (.cons (Rep.int _) .nil) (fun p268 B269 H270 s271 r272 => ?_) (by show 1 ≤ sizeLine; decide)
            replace m67 := m67.step s271 nm0
            replace r76 := r76.mono s271.ex
            replace r88 := r88.mono s271.ex
            replace r262 := r262.mono s271.ex
            replace r267 := r267.mono s271.ex
            replace st := st.go s271 go0
            replace sj42 := sj42.go s271 go0
            replace w := s271.ok
            replace r272 : Rep K B269 (.ref p268) (enc ([256] : List Int)) := r272
            refine h_cons ?_
            refine h_lst ?_
            refine h_cons ?_
            refine h_c ?_
            refine h_nil ?_
            refine h_newL w (ds := (([()] : List Unit)).map enc) (K := K) (.cons Rep.non .nil) (fun p273 B274 H275 s276 r277 => ?_) (by show 1 ≤ sizeLine; decide)
            replace m67 := m67.step s276 nm0
            replace r76 := r76.mono s276.ex
            replace r88 := r88.mono s276.ex
            replace r262 := r262.mono s276.ex
            replace r267 := r267.mono s276.ex
            replace r272 := r272.mono s276.ex
            replace st := st.go s276 go0
            replace sj42 := sj42.go s276 go0
            replace w := s276.ok
            replace r277 : Rep K B274 (.ref p273) (enc ([()] : List Unit)) := r277
            refine h_nil ?_
            refine h_newL w (ds := (([(enc ()), (enc ("" : Str)), (.tup (x83.map enc) : D), (.dic [] : D), (enc (0 : Int)), (enc ([256] : List Int)), (enc ([()] : List Unit))] : List D)).map enc) (K := K) (.cons Rep.non (.cons (Rep.str _) (.cons r262 (.cons r267 (.cons (Rep.int _) (.cons r272 (.cons r277 .nil))))))) (fun p278 B279 H280 s281 r282 => ?_) (by show 7 ≤ sizeLine; decide)
            replace m67 := m67.step s281 nm0
            replace r76 := r76.mono s281.ex
            replace r88 := r88.mono s281.ex
            replace st := st.go s281 go0
            replace sj42 := sj42.go s281 go0
            replace w := s281.ok
            replace r282 : Rep K B279 (.ref p278) (enc ([(enc ()), (enc ("" : Str)), (.tup (x83.map enc) : D), (.dic [] : D), (enc (0 : Int)), (enc ([256] : List Int)), (enc ([()] : List Unit))] : List D)) := r282
            refine h_call ?_
            refine h_cons ?_
            refine h_var rfl ?_
            refine h_cons ?_
            refine h_c ?_
            refine h_nil ?_
            refine ⟨B279, p64, x242.2, 7, w, rfl, m67, (P.bind).mono (fun x283 P => ?_) (fun _ z => z)⟩
            refine fun v287 B284 H285 s286 m67 r288 => ?_
            replace r76 := r76.mono s286.ex
            replace r88 := r88.mono s286.ex
            replace r282 := r282.mono s286.ex
            replace st := st.go s286 (go1 (.inr n69))
            replace sj42 := sj42.go s286 (go1 (.inr n70))
            replace w := s286.ok
            cases r288
            obtain ⟨p289, xs290, hv, hs291, hr292⟩ := Rep.sq w r282
            cases hv
            obtain ⟨x293, hx294, P⟩ := P.ix
            obtain ⟨u295, hu, r296⟩ := RepL.atE hr292 hx294
            refine h_ixL hs291 hu ?_
            refine h_nil ?_
            refine ⟨B284, u295, x293, w, rfl, r296, (P.bind).mono (fun x297 P => ?_) (fun _ z => z)⟩
            refine fun v301 B298 H299 s300 r302 => ?_
            replace m67 := m67.step s300 nm0
            replace r76 := r76.mono s300.ex
            replace r88 := r88.mono s300.ex
            replace r296 := r296.mono s300.ex
            replace st := st.go s300 go0
            replace sj42 := sj42.go s300 go0
            replace w := s300.ok
            cases r302
            refine h_bl ?_
            refine h_iteN (fun c1 => ?_) (fun c1 => ?_)
            · replace P := P.iteF c1
              refine h_ret ?_
              refine h_c ?_
              exact (kr47 _ P.ok) _ _ _ st (Rep.bl _)
            · replace P := P.iteT c1
              refine h_next ?_
              refine h_nx ?_
              exact kk46 () _ _ ⟨_, _, _, _, _, _, _, _, _, sj42, rfl⟩ P.ok
      · rintro a303 _ H305 ⟨B304, o307, o308, o309, o310, o311, o312, o313, o314, s306, rfl⟩ P
        replace st := st.go s306 go0
        replace w := s306.ok
        refine h_nx ?_
        refine h_ret ?_
        refine h_c ?_
        exact P.ok _ _ _ st (Rep.bl _)
end
end A
set_option Elab.async false
set_option linter.all false
set_option maxRecDepth 100000
set_option maxHeartbeats 2000000
namespace Y
open PySem PySem.Spec PyProof.Rows L2
open Enc (enc)
/-! # plain mathematics over mirrors -/
/-- m gives a value, and φ of it -/
def Ok {α : Type} (m : Res α) (φ : α → Prop) : Prop := ∃ a, m = .ok a ∧ φ a
section
variable {α β : Type} {m : Res α} {φ φ' : α → Prop} {k : α → Res β} {ψ : β → Prop} {a : α} {c : Bool} {i : Int} {l : List α}
theorem Ok.pure (h : φ a) : Ok (.ok a) φ := ⟨a, rfl, h⟩
theorem Ok.bind (h : Ok m φ) (hk : ∀ a, φ a → Ok (k a) ψ) : Ok (m.bind k) ψ := by
  obtain ⟨a, e, p⟩ := h
  rw [e]
  exact hk a p
theorem Ok.bindE (e : m = .ok a) (h : Ok (k a) ψ) : Ok (m.bind k) ψ := by rw [e]; exact h
theorem Ok.mono (h : Ok m φ) (hk : ∀ a, φ a → φ' a) : Ok m φ' := by
  obtain ⟨a, e, p⟩ := h
  exact ⟨a, e, hk a p⟩
theorem Ok.ite {m m' : Res α} (h1 : c = true → Ok m φ) (h2 : c = false → Ok m' φ) : Ok (if c = true then m else m') φ := by
  cases c
  · rw [if_neg Bool.false_ne_true]; exact h2 rfl
  · rw [if_pos rfl]; exact h1 rfl
theorem Ok.iteT {m m' : Res α} (hc : c = true) (h : Ok m φ) : Ok (if c = true then m else m') φ := by
  rw [if_pos hc]; exact h
theorem Ok.iteF {m m' : Res α} (hc : c = false) (h : Ok m' φ) : Ok (if c = true then m else m') φ := by
  rw [hc, if_neg Bool.false_ne_true]; exact h
theorem Ok.guard {p : Prop} [Decidable p] (hp : p) (h : Ok m φ) : Ok (guardR p m) φ := by
  unfold guardR; rw [if_pos hp]; exact h
theorem Ok.lt {d : α} (h : Ok (k d) ψ) : Ok (Y.lt d k) ψ := h
theorem Ok.noErr (h : Ok m φ) : Ok m.noErr φ := by
  obtain ⟨a, e, p⟩ := h
  exact ⟨a, by rw [e]; rfl, p⟩
theorem atI_in (h0 : 0 ≤ i) (h1 : i < (l.length : Int)) : ∃ x, atI l i = some x ∧ l[i.toNat]? = some x ∧ x ∈ l := by
  have h2 : i.toNat < l.length := by omega
  have e : ixN l.length i = some i.toNat := by unfold ixN; rw [if_pos h0, if_pos h1]
  refine ⟨l[i.toNat], ?_, List.getElem?_eq_getElem h2, List.getElem_mem h2⟩
  unfold atI
  rw [e]
  exact List.getElem?_eq_getElem h2
theorem Ok.ix (h0 : 0 ≤ i) (h1 : i < (l.length : Int)) (h : ∀ x, x ∈ l → l[i.toNat]? = some x → Ok (k x) ψ) : Ok ((ixR l i).bind k) ψ := by
  obtain ⟨x, e, e2, m⟩ := atI_in h0 h1
  unfold ixR
  rw [e]
  exact h x m e2
theorem Ok.ixs {x : α} (e : ixR l i = .ok x) (h : Ok (k x) ψ) : Ok ((ixR l i).bind k) ψ := by rw [e]; exact h
/-- an item of a written list -/
theorem Ok.ixm (h0 : 0 ≤ i) (h1 : i < (l.length : Int)) (h : ∀ x, x ∈ l → Ok (k x) ψ) : Ok ((ixR l i).bind k) ψ := Ok.ix h0 h1 fun x m _ => h x m
/-- a loop that keeps I and ends by itself -/
theorem Ok.for {S R : Type} {f : α → S → Res (Fl S R)} (I : S → Prop) (hf : ∀ x s, x ∈ l → I s → Ok (f x s) fun r => ∃ s', r = .nx s' ∧ I s') : ∀ {s : S}, I s → Ok (forR l s f) fun r => ∃ s', r = .nx s' ∧ I s' := by
  induction l with
  | nil => intro s h; exact ⟨_, rfl, s, rfl, h⟩
  | cons x xs ih =>
    intro s h
    refine Ok.bind (hf x s List.mem_cons_self h) ?_
    rintro r ⟨s', rfl, h'⟩
    exact ih (fun y s m h => hf y s (List.mem_cons_of_mem _ m) h) h'
/-- a comprehension: each turn gives a good thing and keeps I -/
theorem Ok.compL {S R : Type} {f : α → S → Res (Option R × S)} (I : S → Prop) (G : R → Prop) (hf : ∀ x s, x ∈ l → I s → Ok (f x s) fun r => I r.2 ∧ ∀ b, r.1 = some b → G b) : ∀ {s : S}, I s → Ok (compL l s f) fun r => I r.2 ∧ ∀ b ∈ r.1, G b := by
  induction l with
  | nil => intro s h; exact ⟨_, rfl, h, fun _ m => nomatch m⟩
  | cons x xs ih =>
    intro s h
    refine Ok.bind (hf x s List.mem_cons_self h) ?_
    rintro ⟨o, s'⟩ ⟨h', g⟩
    refine Ok.bind (ih (fun y s m h => hf y s (List.mem_cons_of_mem _ m) h) h') ?_
    rintro ⟨bs, s2⟩ ⟨h2, g2⟩
    refine ⟨_, rfl, h2, fun b m => ?_⟩
    cases o with
    | none => exact g2 b m
    | some b0 =>
      rcases List.mem_cons.mp m with e | m
      · rw [e]; exact g b0 rfl
      · exact g2 b m
theorem Ok.comp {S R : Type} {f : α → S → Res (Option R × S)} {s : S} (hl : l.length ≤ 1000000) (I : S → Prop) (G : R → Prop) (hf : ∀ x s, x ∈ l → I s → Ok (f x s) fun r => I r.2 ∧ ∀ b, r.1 = some b → G b) (h : I s) : Ok (compR l s f) fun r => I r.2 ∧ ∀ b ∈ r.1, G b := Ok.guard hl (Ok.compL I G hf h)
/-- .. and no more things than turns -/
theorem Ok.compLen {S R : Type} {f : α → S → Res (Option R × S)} {s : S} (hl : l.length ≤ 1000000) (I : S → Prop) (G : R → Prop) (hf : ∀ x s, x ∈ l → I s → Ok (f x s) fun r => I r.2 ∧ ∀ b, r.1 = some b → G b) (h : I s) : Ok (compR l s f) fun r => I r.2 ∧ (∀ b ∈ r.1, G b) ∧ r.1.length ≤ l.length := by
  refine Ok.guard hl ?_
  clear hl
  induction l generalizing s with
  | nil => exact ⟨_, rfl, h, (fun _ m => nomatch m), Nat.le_refl _⟩
  | cons x xs ih =>
    refine Ok.bind (hf x s List.mem_cons_self h) ?_
    rintro ⟨o, s'⟩ ⟨h', g⟩
    refine Ok.bind (ih (fun y s m h => hf y s (List.mem_cons_of_mem _ m) h) h') ?_
    rintro ⟨bs, s2⟩ ⟨h2, g2, g3⟩
    refine ⟨_, rfl, h2, fun b m => ?_, ?_⟩
    · cases o with
      | none => exact g2 b m
      | some b0 =>
        rcases List.mem_cons.mp m with e | m
        · rw [e]; exact g b0 rfl
        · exact g2 b m
    · cases o with
      | none => exact Nat.le_succ_of_le g3
      | some b0 => exact Nat.succ_le_succ g3
end
theorem log2_small {n b : Nat} (h : n < 2 ^ b) (h0 : 0 < b) : n.log2 < b := PySem.Flt.log2_lt_of h0 h
theorem mulW {i j : Int} {a b : Nat} (ha : i.natAbs < 2 ^ a) (hb : j.natAbs < 2 ^ b) (h0 : 0 < a := by decide) (h1 : 0 < b := by decide) (h : a + b ≤ 1000000 := by decide) : CMulW i j := wide_mul ha hb h0 h1 h
theorem divW {i j : Int} {b : Nat} (h : 0 < j) (hb : j.natAbs < 2 ^ b) (h0 : 0 < b := by decide) (h9 : b ≤ 9000 := by decide) : CDivW i j := wide_div h hb h0 h9
theorem cutL_mem {α : Type} {l : List α} {lo hi : Option Int} {x : α} (h : x ∈ cutL l lo hi) : x ∈ l := List.mem_of_mem_drop (List.mem_of_mem_take h)
theorem cutL_len {α : Type} {l : List α} {lo hi : Option Int} : (cutL l lo hi).length ≤ l.length := by
  unfold cutL
  rw [List.length_take, List.length_drop]
  omega
mutual
theorem eqv_refl : ∀ d : D, flatD d = true → PyData.eqv (pyD d) (pyD d) = true
  | .non, _ => rfl
  | .bl b, _ => by show (b == b) = true; simp
  | .int i, _ => by show (i == i) = true; simp
  | .str x, _ => by show (x == x) = true; simp
  | .lst ds, h => eqvs_refl ds h
  | .tup ds, h => eqvs_refl ds h
  | .dic _, h => nomatch h
  | .obj _ _, h => nomatch h
theorem eqvs_refl : ∀ ds : List D, flatDs ds = true → PyData.eqvAll (pyDs ds) (pyDs ds) = true
  | [], _ => rfl
  | d :: ds, h => by
    have h' : (flatD d && flatDs ds) = true := h
    rw [Bool.and_eq_true] at h'
    show (PyData.eqv (pyD d) (pyD d) && PyData.eqvAll (pyDs ds) (pyDs ds)) = true
    rw [eqv_refl d h'.1, eqvs_refl ds h'.2]
    rfl
end
theorem eqD_refl {d : D} (h : flatD d = true) : eqD d d = true := eqv_refl d h
theorem flat_ints : ∀ l : List Int, flatDs (l.map enc) = true
  | [] => rfl
  | i :: l => by show (flatD (.int i) && flatDs (l.map enc)) = true; rw [flat_ints l]; rfl

mutual
/-- data that may be compared: no dict, texts plain, not deep -/
def eqOk (n : Nat) : D → Bool
  | .lst ds => match n with | 0 => false | n + 1 => eqOks n ds
  | .tup ds => match n with | 0 => false | n + 1 => eqOks n ds
  | .dic _ => false
  | .obj _ _ => false
  | .str x => PyData.strOk x
  | _ => true
def eqOks (n : Nat) : List D → Bool
  | [] => true
  | d :: ds => eqOk n d && eqOks n ds
end
mutual
theorem eqOk_flat : ∀ (d : D) (n : Nat), eqOk n d = true → flatD d = true ∧ (pyD d).canLay0 = true ∧ (pyD d).depth ≤ n
  | .non, _, _ => ⟨rfl, rfl, Nat.zero_le _⟩
  | .bl _, _, _ => ⟨rfl, rfl, Nat.zero_le _⟩
  | .int _, _, _ => ⟨rfl, rfl, Nat.zero_le _⟩
  | .str _, _, h => ⟨rfl, h, Nat.zero_le _⟩
  | .lst ds, n + 1, h => let ⟨a, b, c⟩ := eqOks_flat ds n h; ⟨a, b, Nat.succ_le_succ c⟩
  | .tup ds, n + 1, h => let ⟨a, b, c⟩ := eqOks_flat ds n h; ⟨a, b, Nat.succ_le_succ c⟩
  | .lst _, 0, h => nomatch h
  | .tup _, 0, h => nomatch h
  | .dic _, _, h => nomatch h
  | .obj _ _, _, h => nomatch h
theorem eqOks_flat : ∀ (ds : List D) (n : Nat), eqOks n ds = true → flatDs ds = true ∧ PyData.canLayAll0 (pyDs ds) = true ∧ PyData.depthAll (pyDs ds) ≤ n
  | [], _, _ => ⟨rfl, rfl, Nat.zero_le _⟩
  | d :: ds, n, h => by
    have h' : (eqOk n d && eqOks n ds) = true := h
    rw [Bool.and_eq_true] at h'
    obtain ⟨a, b, c⟩ := eqOk_flat d n h'.1
    obtain ⟨a', b', c'⟩ := eqOks_flat ds n h'.2
    refine ⟨?_, ?_, ?_⟩
    · show (flatD d && flatDs ds) = true; rw [a, a']; rfl
    · show (PyData.canLay0 (pyD d) && PyData.canLayAll0 (pyDs ds)) = true; rw [b, b']; rfl
    · exact Nat.max_le.mpr ⟨c, c'⟩
end
theorem okEq_of {d e : D} (h : eqOk 20 d = true) (h' : eqOk 20 e = true) : okEq d e := by
  obtain ⟨a, b, c⟩ := eqOk_flat d 20 h
  obtain ⟨a', b', c'⟩ := eqOk_flat e 20 h'
  refine ⟨a, a', ?_, ?_⟩
  · unfold SeqAt.shaped; rw [b, decide_eq_true (Nat.le_trans c (by decide))]; rfl
  · unfold SeqAt.shaped; rw [b', decide_eq_true (Nat.le_trans c' (by decide))]; rfl
theorem eqOk_ints : ∀ (l : List Int) (n : Nat), eqOks n (l.map enc) = true
  | [], _ => rfl
  | i :: l, n => by show (eqOk n (.int i) && eqOks n (l.map enc)) = true; rw [eqOk_ints l n]; rfl
/-- a comprehension without a state whose turns give values -/
theorem compL_map {α β : Type} {f : α → Unit → Res (Option β × Unit)} {g : α → β} : ∀ {l : List α}, (∀ x ∈ l, f x () = .ok (some (g x), ())) → compL l () f = .ok (l.map g, ())
  | [], _ => rfl
  | x :: xs, h => by
    unfold compL
    rw [h x List.mem_cons_self]
    show ((compL xs () f).bind fun q => .ok (g x :: q.1, q.2)) = _
    rw [compL_map fun y m => h y (List.mem_cons_of_mem _ m)]
    rfl
theorem compR_map {α β : Type} {f : α → Unit → Res (Option β × Unit)} {g : α → β} {l : List α} (hl : l.length ≤ 1000000) (h : ∀ x ∈ l, f x () = .ok (some (g x), ())) : compR l () f = .ok (l.map g, ()) := by
  unfold compR guardR
  rw [if_pos hl, compL_map h]
def smallD (d : D) : Prop := match d with | .lst ds => ds.length ≤ 1000000 | _ => True
end Y

set_option Elab.async false
set_option linter.all false
set_option maxRecDepth 100000
set_option maxHeartbeats 2000000
namespace A
open PySem PySem.Spec PyProof.Rows L2 Y
open Y.Enc (enc)
/-- a state of draws -/
def Gd (st : List Int) : Prop := st.length = 1 ∨ st.length = 3
theorem setR_in {α : Type} {l : List α} {i : Int} {x : α} (h0 : 0 ≤ i) (h1 : i < (l.length : Int)) : setR l i x = .ok (l.set i.toNat x) := by
  unfold setR
  have e : ixN l.length i = some i.toNat := by unfold ixN; rw [if_pos h0, if_pos h1]
  rw [e]
theorem Ok.set {α β : Type} {l : List α} {i : Int} {x : α} {k : List α → Res β} {ψ : β → Prop} (h0 : 0 ≤ i) (h1 : i < (l.length : Int)) (h : ∀ l', l'.length = l.length → Ok (k l') ψ) : Ok ((setR l i x).bind k) ψ := by
  rw [setR_in h0 h1]
  exact h _ (List.length_set ..)
theorem digit_ok {st : List Int} {b : Int} (h : Gd st) (hb : 0 < b) (hb2 : b.natAbs < 2 ^ 4000) : Ok (l_digit st b) fun r => (0 ≤ r.1 ∧ r.1 < b) ∧ r.2.length = 3 := by
  unfold l_digit
  refine Ok.bind (φ := fun l => l.length = 3) (Ok.ite (fun c => ?_) (fun c => ?_)) fun l hl => ?_
  · have e : st.length = 1 := by have := of_decide_eq_true c; omega
    refine Ok.ix (by decide) (by omega) fun x _ _ => Ok.guard (by simp [e]) (Ok.pure (by simp [e]))
  · have e : ¬ (st.length : Int) = 1 := of_decide_eq_false c
    refine Ok.pure ?_
    rcases h with h | h
    · exact absurd (by omega) e
    · exact h
  refine Ok.ix (by decide) (by omega) fun x _ _ => Ok.ite (fun c => ?_) (fun c => ?_)
  · refine Ok.ix (by decide) (by omega) fun y _ _ => Ok.guard hb (Ok.lt (Ok.ix (by decide) (by omega) fun z _ _ => Ok.guard (divW hb hb2) (Ok.set (by decide) (by omega) fun l' e => Ok.pure ⟨⟨Int.emod_nonneg _ (Int.ne_of_gt hb), Int.emod_lt_of_pos _ hb⟩, e.trans hl⟩)))
  · refine Ok.ix (by decide) (by omega) fun y _ _ => Ok.set (by decide) (by omega) fun l' e => Ok.ix (by decide) (by omega) fun z _ _ => Ok.ix (by decide) (by omega) fun u _ _ => Ok.lt ?_
    generalize hn : (((z + 7919 * u) + 1) * 48271) % 2147483647 = n
    have hn1 : 0 ≤ n ∧ n < 2147483647 := by subst hn; exact ⟨Int.emod_nonneg _ (by decide), Int.emod_lt_of_pos _ (by decide)⟩
    refine Ok.guard (mulW (a := 32) (b := 32) (by omega) (by omega)) (Ok.lt ?_)
    generalize hm : (n * (n / 1009 + 69621)) % 2147483647 = m
    have hm1 : 0 ≤ m ∧ m < 2147483647 := by subst hm; exact ⟨Int.emod_nonneg _ (by decide), Int.emod_lt_of_pos _ (by decide)⟩
    refine Ok.guard (mulW (a := 32) (b := 32) (by omega) (by omega)) (Ok.guard hb (Ok.pure ⟨⟨Int.emod_nonneg _ (Int.ne_of_gt hb), Int.emod_lt_of_pos _ hb⟩, e.trans hl⟩))
theorem gd3 {st : List Int} (h : st.length = 3) : Gd st := .inr h
/-- a draw -/
theorem dg {β : Type} {st : List Int} {b : Int} {k : Int × List Int → Res β} {ψ : β → Prop} (h : Gd st) (hb : 0 < b) (hb2 : b.natAbs < 2 ^ 4000) (hk : ∀ x s, 0 ≤ x → x < b → s.length = 3 → Ok (k (x, s)) ψ) : Ok ((l_digit st b).bind k) ψ :=
  Ok.bind (digit_ok h hb hb2) fun r p => hk r.1 r.2 p.1.1 p.1.2 p.2
theorem big {b : Int} {n : Nat} (h : b.natAbs < 2 ^ n) (hn : n ≤ 4000) : b.natAbs < 2 ^ 4000 := Nat.lt_of_lt_of_le h (Nat.pow_le_pow_right (by decide) hn)
theorem bg {b : Int} (h : b.natAbs < 18446744073709551616) : b.natAbs < 2 ^ 4000 := big (n := 64) h (by decide)
end A

set_option Elab.async false
set_option linter.all false
set_option maxRecDepth 100000
set_option maxHeartbeats 2000000
namespace A
open PySem PySem.Spec PyProof.Rows L2 Y
open Y.Enc (enc)
/-! # rows of bytes -/
def isBytes (d : D) : Bool := match d with
  | .lst ds => ds.all fun d => isWhole d 0 255
  | _ => false
theorem is_bytes_ok {d : D} (h : smallD d) : m_is_bytes d = .ok (isBytes d) := by
  unfold m_is_bytes
  cases d with
  | lst ds =>
    rw [if_pos (show isA "list" (.lst ds) = true from (by decide +kernel : isS "list" "list" = true))]
    show ((compR ds () _).bind _) = _
    rw [compR_map (g := fun x => isWhole x 0 255) h (fun x _ => rfl)]
    show Res.ok ((ds.map fun x => isWhole x 0 255).all id) = _
    rw [List.all_map]
    rfl
  | _ => rfl
theorem small_ints {l : List Int} (h : l.length ≤ 1000000) : smallD (enc l) := by show (l.map enc).length ≤ 1000000; rw [List.length_map]; exact h
def Byt (i : Int) : Prop := 0 ≤ i ∧ i ≤ 255
theorem bytes_ints {l : List Int} (h : ∀ b ∈ l, Byt b) : isBytes (enc l) = true := by
  show (l.map enc).all (fun d => isWhole d 0 255) = true
  rw [List.all_map, List.all_eq_true]
  intro b m
  obtain ⟨h0, h1⟩ := h b m
  show (decide (0 ≤ b) && decide (b ≤ 255)) = true
  rw [decide_eq_true h0, decide_eq_true h1]; rfl
theorem bytes_three {a b : List Int} {x : D} (ha : ∀ i ∈ a, Byt i) (hb : ∀ i ∈ b, Byt i) : isBytes (enc (((a.map enc : List D) ++ ([x] : List D)) ++ (b.map enc : List D))) = isWhole x 0 255 := by
  have e1 : ∀ {l : List Int}, (∀ i ∈ l, Byt i) → (l.map enc : List D).all (fun d => isWhole d 0 255) = true := fun {l} h => bytes_ints h
  show (List.map (fun d : D => d) (((a.map enc : List D) ++ [x]) ++ (b.map enc : List D))).all (fun d => isWhole d 0 255) = _
  rw [List.map_id', List.all_append, List.all_append, e1 ha, e1 hb]
  simp
theorem eqOk_row (l : List Int) : eqOk 20 (enc l) = true := eqOk_ints l 19
theorem ok_rows (l m : List Int) : okEq (enc l) (enc m) := okEq_of (eqOk_row l) (eqOk_row m)
theorem eqs_int : ∀ (l m : List Int), PyData.eqvAll (pyDs (l.map enc)) (pyDs (m.map enc)) = decide (l = m)
  | [], [] => rfl
  | [], _ :: _ => rfl
  | _ :: _, [] => rfl
  | x :: l, y :: m => by
    show (decide (x = y) && PyData.eqvAll (pyDs (l.map enc)) (pyDs (m.map enc))) = _
    rw [eqs_int l m, ← Bool.decide_and]
    exact decide_eq_decide.mpr ⟨fun h => by rw [h.1, h.2], fun h => by cases h; exact ⟨rfl, rfl⟩⟩
/-- rows are compared thing by thing -/
theorem eq_rows (l m : List Int) : eqD (enc l) (enc m) = decide (l = m) := eqs_int l m
theorem eq_row (l : List Int) : eqD (enc l) (enc l) = true := by rw [eq_rows]; simp
theorem rngI_len' (n : Int) : (rngI 0 n).length = n.toNat := by unfold rngI; simp
/-- the check of a row -/
def sumB (l : List Int) (n : Int) : Int := l.foldl (fun n b => (n * 257 + b) % 65521) n
theorem sumB_app (l m : List Int) (n : Int) : sumB (l ++ m) n = sumB m (sumB l n) := List.foldl_append
theorem byt_cut {l : List Int} {lo hi : Option Int} (h : ∀ b ∈ l, Byt b) : ∀ b ∈ cutL l lo hi, Byt b := fun b m => h b (cutL_mem m)
theorem byt_app {l m : List Int} (h : ∀ b ∈ l, Byt b) (h' : ∀ b ∈ m, Byt b) : ∀ b ∈ l ++ m, Byt b := fun b q => (List.mem_append.mp q).elim (h b) (h' b)
end A

set_option Elab.async false
set_option linter.all false
set_option maxRecDepth 100000
set_option maxHeartbeats 2000000
namespace A
open PySem PySem.Spec PyProof.Rows L2 Y
open Y.Enc (enc)
/-! # stuffed rows -/
def stL : Int → List Int → List Int
  | _, [] => []
  | n, b :: l => if (if b = 0 then n + 1 else 0) = 2 then b :: 2 :: stL 0 l else b :: stL (if b = 0 then n + 1 else 0) l
theorem st_two {n b : Int} {l : List Int} (h : (if b = 0 then n + 1 else 0) = 2) : stL n (b :: l) = b :: 2 :: stL 0 l := if_pos h
theorem st_one {n b : Int} {l : List Int} (h : (if b = 0 then n + 1 else 0) ≠ 2) : stL n (b :: l) = b :: stL (if b = 0 then n + 1 else 0) l := if_neg h
theorem nx01 {n b : Int} (h : n = 0 ∨ n = 1) (c : (if b = 0 then n + 1 else 0) ≠ 2) : (if b = 0 then n + 1 else 0) = 0 ∨ (if b = 0 then n + 1 else 0) = 1 := by
  by_cases hb : b = 0
  · rw [if_pos hb] at c ⊢
    omega
  · rw [if_neg hb]
    exact .inl rfl
theorem st_len : ∀ (l : List Int) (n : Int), (stL n l).length ≤ 2 * l.length
  | [], _ => Nat.le_refl _
  | b :: l, n => by
    have h := st_len l
    by_cases c : (if b = 0 then n + 1 else 0) = 2
    · rw [st_two c]
      have := h 0
      simp only [List.length_cons]
      omega
    · rw [st_one c]
      have := h (if b = 0 then n + 1 else 0)
      simp only [List.length_cons]
      omega
theorem st_byt : ∀ (l : List Int) (n : Int), (∀ b ∈ l, Byt b) → ∀ b ∈ stL n l, Byt b
  | [], _, _ => fun _ m => nomatch m
  | b :: l, n, h => fun x m => by
    have hb := h b List.mem_cons_self
    have hl := fun y m => h y (List.mem_cons_of_mem b m)
    by_cases c : (if b = 0 then n + 1 else 0) = 2
    · rw [st_two c] at m
      rcases List.mem_cons.mp m with rfl | m
      · exact hb
      · rcases List.mem_cons.mp m with rfl | m
        · exact ⟨by decide, by decide⟩
        · exact st_byt l 0 hl x m
    · rw [st_one c] at m
      rcases List.mem_cons.mp m with rfl | m
      · exact hb
      · exact st_byt l _ hl x m
theorem Ok.forM' {α β S R : Type} {g : β → α} {f : α → S → Res (Fl S R)} (I : List β → S → Prop) (hf : ∀ x xs s, I (x :: xs) s → Ok (f (g x) s) fun r => ∃ s', r = .nx s' ∧ I xs s') : ∀ {l : List β} {s : S}, I l s → Ok (forR (l.map g) s f) fun r => ∃ s', r = .nx s' ∧ I [] s'
  | [], s, h => ⟨_, rfl, s, rfl, h⟩
  | x :: xs, s, h => by
    refine Ok.bind (hf x xs s h) ?_
    rintro r ⟨s', rfl, h'⟩
    exact Ok.forM' I hf h'
def SI (row : List Int) (xs : List Int) (s : Int × List Int) : Prop := (s.1 = 0 ∨ s.1 = 1) ∧ s.2 ++ stL s.1 xs = stL 0 row ∧ s.2.length + 2 * xs.length ≤ 2 * row.length
theorem SI.two {row xs : List Int} {n b : Int} {acc : List Int} (h : SI row (b :: xs) (n, acc)) (c : (if b = 0 then n + 1 else 0) = 2) : SI row xs (0, (acc ++ [b]) ++ [2]) := by
  obtain ⟨h1, h2, h3⟩ := h
  simp only at h1 h2 h3
  rw [st_two c] at h2
  refine ⟨.inl rfl, by rw [← h2]; simp, ?_⟩
  simp only [List.length_append, List.length_cons, List.length_nil] at h3 ⊢
  omega
theorem SI.one {row xs : List Int} {n b : Int} {acc : List Int} (h : SI row (b :: xs) (n, acc)) (c : (if b = 0 then n + 1 else 0) ≠ 2) : SI row xs ((if b = 0 then n + 1 else 0), acc ++ [b]) := by
  obtain ⟨h1, h2, h3⟩ := h
  simp only at h1 h2 h3
  rw [st_one c] at h2
  refine ⟨?_, by rw [← h2]; simp, ?_⟩
  · exact nx01 h1 c
  · simp only [List.length_append, List.length_cons, List.length_nil] at h3 ⊢
    omega
theorem SI.len {row xs : List Int} {n b : Int} {acc : List Int} (h : SI row (b :: xs) (n, acc)) : acc.length + 2 ≤ 2 * row.length := by
  have h3 : acc.length + 2 * (xs.length + 1) ≤ 2 * row.length := h.2.2
  omega
theorem SI.end {row : List Int} {s : Int × List Int} (h : SI row [] s) : s.2 = stL 0 row := by
  have := h.2.1
  rw [show stL s.1 [] = [] from rfl, List.append_nil] at this
  exact this
theorem ok_eq {α : Type} {m : Res α} {a : α} (h : Ok m fun r => r = a) : m = .ok a := by
  obtain ⟨r, e, rfl⟩ := h
  exact e
theorem Ok.whileR {S R : Type} {f : S → Res (Fl S R)} (I : S → Prop) (Q : S → Prop) (Z : R → Prop) (μ : S → Nat) (hf : ∀ s, I s → Ok (f s) fun r => (∃ s', r = .nx s' ∧ I s' ∧ μ s' < μ s) ∨ (∃ s', r = .bk s' ∧ Q s') ∨ ∃ v, r = .rt v ∧ Z v) : ∀ (n : Nat) {s : S}, μ s < n → I s → Ok (Y.whileR n s f) fun r => (∃ s', r = .bk s' ∧ Q s') ∨ ∃ v, r = .rt v ∧ Z v
  | 0, s, h, _ => absurd h (Nat.not_lt_zero _)
  | n + 1, s, h, hI => by
    refine Ok.bind (hf s hI) ?_
    rintro r (⟨s', rfl, h', hm⟩ | ⟨s', rfl, q⟩ | ⟨v, rfl, q⟩)
    · exact Ok.whileR I Q Z μ hf n (by omega) h'
    · exact Ok.pure (.inl ⟨s', rfl, q⟩)
    · exact Ok.pure (.inr ⟨v, rfl, q⟩)
theorem cut2 {l : List Int} {i j : Nat} (h : i + j ≤ 2000000) : cutL l (some (i : Int)) (some ((i + j : Nat) : Int)) = (l.drop i).take j := by
  unfold cutL
  rw [HT.sIx_nat, HT.sIx_nat]
  by_cases c : i ≤ l.length
  · rw [show min i l.length = i by omega]
    rw [List.take_eq_take_iff, List.length_drop]
    omega
  · rw [show min i l.length = l.length by omega, List.drop_of_length_le (Nat.le_refl _), List.drop_of_length_le (by omega)]
    simp
end A

set_option Elab.async false
set_option linter.all false
set_option maxRecDepth 100000
set_option maxHeartbeats 2000000
namespace A
open PySem PySem.Spec PyProof.Rows L2 Y
open Y.Enc (enc)
/-! # contents of a box: bytes with their ends -/
theorem fd_nil {α : Type} {l : List α} {i : Nat} (h : l.length ≤ i) : l.drop i = [] := List.drop_of_length_le h
def nb (n b : Int) : Int := if b = 0 then n + 1 else 0
theorem nb01 {n b : Int} (h : n = 0 ∨ n = 1) (c : nb n b ≠ 2) : nb n b = 0 ∨ nb n b = 1 := nx01 h c
/-- so many bytes are read -/
def uu : Int → Nat → Nat → List Int → Option (List Int × Nat)
  | n, k, at_, [] => if n = 2 ∨ 0 < k then none else some ([], at_)
  | n, k, at_, b :: s => if n = 2 then (if b = 2 then uu 0 k (at_ + 1) s else none) else match k with
    | 0 => some ([], at_)
    | k + 1 => (uu (nb n b) k (at_ + 1) s).map fun x => (b :: x.1, x.2)
theorem nb2 {n b : Int} (h : n = 0 ∨ n = 1) (c : nb n b = 2) : b = 0 := by
  unfold nb at c
  by_cases hb : b = 0
  · exact hb
  · rw [if_neg hb] at c
    exact absurd c (by decide)
theorem whileEq {S R β : Type} {f : S → Res (Fl S R)} {g : S → Res β} {K : Fl S R → Res β} (I : S → Prop) (μ : S → Nat) (hf : ∀ s, I s → (∃ s', f s = .ok (.nx s') ∧ I s' ∧ μ s' < μ s ∧ g s' = g s) ∨ (∃ s', f s = .ok (.bk s') ∧ K (.bk s') = g s) ∨ ∃ v, f s = .ok (.rt v) ∧ K (.rt v) = g s) : ∀ (n : Nat) {s : S}, μ s < n → I s → (Y.whileR n s f).bind K = g s
  | 0, s, h, _ => absurd h (Nat.not_lt_zero _)
  | n + 1, s, h, hI => by
    show (Res.bind (Res.bind (f s) _) K) = _
    rcases hf s hI with ⟨s', e, h', hm, eg⟩ | ⟨s', e, q⟩ | ⟨v, e, q⟩
    · rw [e, ← eg]
      exact whileEq I μ hf n (by omega) h'
    · rw [e]
      exact q
    · rw [e]
      exact q
theorem atR {l : List Int} {i : Nat} {b : Int} {s : List Int} (h : l.drop i = b :: s) : ixR l (i : Int) = .ok b ∧ l.drop (i + 1) = s ∧ i < l.length := by
  have hi : i < l.length := by
    rcases Nat.lt_or_ge i l.length with h' | h'
    · exact h'
    · rw [fd_nil h'] at h; exact nomatch h
  rw [List.drop_eq_getElem_cons hi] at h
  injection h with h1 h2
  refine ⟨?_, h2, hi⟩
  unfold ixR
  obtain ⟨x, e1, e2, _⟩ := atI_in (l := l) (i := (i : Int)) (by omega) (by omega)
  rw [e1]
  rw [show ((i : Int)).toNat = i by omega, List.getElem?_eq_getElem hi, h1] at e2
  cases e2
  rfl
def okU (x : Option (List Int × Nat)) : Option (Tp2 (List Int) Int) := x.map fun x => ⟨x.1, (x.2 : Int)⟩
/-! # the law's reading of all contents -/
theorem cut_last {l : List Int} : cutL l none (some (-1)) = l.dropLast := by
  unfold cutL
  have e : HT.sIx l.length l.length (some (-1)) = l.length - 1 := by
    show (if (-1 : Int) < 0 then ((-1 : Int) + (l.length : Int)).toNat else min (-1 : Int).toNat l.length) = _
    rw [if_pos (by decide)]
    omega
  rw [List.dropLast_eq_take, e]
  rfl
theorem set_last {l : List Int} {a x : Int} : setR (l ++ [a]) (-1) x = .ok (l ++ [x]) := by
  unfold setR ixN
  rw [if_neg (by decide), if_pos (by rw [List.length_append]; show -((l.length + 1 : Nat) : Int) ≤ -1; omega)]
  show Res.ok ((l ++ [a]).set ((-1 : Int) + ((l ++ [a]).length : Nat)).toNat x) = _
  rw [show ((-1 : Int) + ((l ++ [a]).length : Nat)).toNat = l.length by rw [List.length_append]; show ((-1 : Int) + ((l.length + 1 : Nat) : Int)).toNat = _; omega]
  simp
theorem nb_mul {n b : Int} : (n + 1) * b2z (decide (b = 0)) = nb n b := by
  unfold nb
  by_cases hb : b = 0
  · rw [if_pos hb, decide_eq_true hb]; show (n + 1) * 1 = _; omega
  · rw [if_neg hb, decide_eq_false hb]; show (n + 1) * 0 = _; omega
def fsC (C : List (Int × Nat)) : List Int := C.map (·.1)
def snC (C : List (Int × Nat)) : List Int := C.map fun x => (x.2 : Int)
/-! # numbers in bytes -/
abbrev GRT : Int := 1000000000000000000000000000000000000000000000000000000000000
def num : Int → Nat → List Int → Option (Int × Nat)
  | _, _, [] => none
  | acc, k, b :: s => if GRT < acc * 128 + b % 128 then none else if b < 128 then some (acc * 128 + b % 128, k + 1) else num (acc * 128 + b % 128) (k + 1) s
def tpN (x : Option (Int × Nat)) : Option (Tp2 Int Int) := x.map fun x => ⟨x.1, (x.2 : Int)⟩
/-- the number at a place -/
def numb (k : Nat) (s : List Int) : Option (Int × Nat) := if s.head? = some 128 then none else num 0 k s
theorem head_one {s : List Int} : s.take 1 = [128] ↔ s.head? = some 128 := by cases s <;> simp
theorem number_m {row : List Int} {at_ : Nat} (hl : row.length ≤ 900000) (ha : at_ ≤ row.length) : m_number_at row (at_ : Int) = .ok (tpN (numb at_ (row.drop at_))) := by
  unfold m_number_at
  have ec : cutL row (some (at_ : Int)) (some ((at_ : Int) + 1)) = (row.drop at_).take 1 := cut2 (i := at_) (j := 1) (by omega)
  rw [ec]
  unfold guardR
  rw [if_pos (ok_rows _ _), eq_rows]
  unfold numb
  by_cases c : (row.drop at_).head? = some 128
  · rw [if_pos (decide_eq_true (head_one.mpr c)), if_pos c]
    rfl
  · rw [if_neg (by rw [decide_eq_false fun z => c (head_one.mp z)]; decide), if_neg c]
    refine (whileEq (S := Int × Int) (g := fun s => .ok (tpN (num s.1 s.2.toNat (row.drop s.2.toNat)))) (fun s => 0 ≤ s.2 ∧ s.2 ≤ (row.length : Int)) (fun s => row.length - s.2.toNat) ?_ _ (by show row.length - _ < _; omega) ⟨by show (0 : Int) ≤ (at_ : Int); omega, by show (at_ : Int) ≤ _; omega⟩).trans ?_
    · rintro ⟨acc, p⟩ ⟨h0, h1⟩
      simp only at h0 h1
      obtain ⟨i, rfl⟩ : ∃ i : Nat, p = (i : Int) := ⟨p.toNat, by omega⟩
      have hi : (i : Int).toNat = i := by omega
      simp only [hi]
      cases e : row.drop i with
      | nil =>
        have hir : i = row.length := by
          have : (row.drop i).length = 0 := by rw [e]; rfl
          rw [List.length_drop] at this
          omega
        exact .inr (.inl ⟨(acc, (i : Int)), by rw [if_neg (by rw [decide_eq_false (by omega)]; decide)], rfl⟩)
      | cons b s =>
        obtain ⟨e1, e2, e3⟩ := atR e
        have hi1 : ((i : Int) + 1).toNat = i + 1 := by omega
        rw [if_pos (decide_eq_true (by omega)), e1]
        show (∃ s', (if decide (GRT < acc * 128 + b % 128) = true then _ else _) = _ ∧ _) ∨ (∃ s', (if decide (GRT < acc * 128 + b % 128) = true then _ else _) = _ ∧ _) ∨ ∃ v, (if decide (GRT < acc * 128 + b % 128) = true then _ else _) = _ ∧ _
        have en : num acc i (b :: s) = if GRT < acc * 128 + b % 128 then none else if b < 128 then some (acc * 128 + b % 128, i + 1) else num (acc * 128 + b % 128) (i + 1) s := rfl
        rw [en]
        by_cases hg : GRT < acc * 128 + b % 128
        · rw [if_pos (decide_eq_true hg), if_pos hg]
          exact .inr (.inr ⟨_, rfl, rfl⟩)
        · rw [if_neg (by rw [decide_eq_false hg]; decide), if_neg hg, show (i : Int) + 1 - 1 = (i : Int) by omega, e1]
          show (∃ s', (if decide (b < 128) = true then _ else _) = _ ∧ _) ∨ (∃ s', (if decide (b < 128) = true then _ else _) = _ ∧ _) ∨ ∃ v, (if decide (b < 128) = true then _ else _) = _ ∧ _
          by_cases hb : b < 128
          · rw [if_pos (decide_eq_true hb), if_pos hb]
            exact .inr (.inr ⟨_, rfl, rfl⟩)
          · rw [if_neg (by rw [decide_eq_false hb]; decide), if_neg hb]
            exact .inl ⟨(_, (i : Int) + 1), rfl, ⟨by simp only; omega, by simp only; omega⟩, by simp only; omega, by simp only [hi1, e2]⟩
    · show Res.ok (tpN (num 0 (at_ : Int).toNat (row.drop (at_ : Int).toNat))) = _
      rw [show ((at_ : Int)).toNat = at_ by omega]
theorem rngI_cons {i j : Int} (h : i < j) : rngI i j = i :: rngI (i + 1) j := by
  unfold rngI
  rw [show (j - i).toNat = (j - (i + 1)).toNat + 1 by omega, List.range_succ_eq_map, List.map_cons, List.map_map]
  refine congr (congrArg _ (by omega)) (List.map_congr_left fun x _ => ?_)
  show i + ((x + 1 : Nat) : Int) = i + 1 + (x : Int)
  omega
theorem rngI_nil {i j : Int} (h : j ≤ i) : rngI i j = [] := by
  unfold rngI
  rw [show (j - i).toNat = 0 by omega]
  rfl
theorem num_take : ∀ (s : List Int) (acc : Int) (k j : Nat), num acc j (s.take k) = (num acc j s).filter fun x => decide (x.2 ≤ j + k)
  | [], acc, k, j => by cases k <;> rfl
  | b :: s, acc, 0, j => by
    show none = _
    cases h : num acc j (b :: s) with
    | none => rfl
    | some x =>
      have : ∀ (s : List Int) (acc : Int) (j : Nat), num acc j s = some x → j < x.2 := by
        intro s
        induction s with
        | nil => exact fun _ _ z => nomatch z
        | cons b s ih =>
          intro acc j z
          have en : num acc j (b :: s) = if GRT < acc * 128 + b % 128 then none else if b < 128 then some (acc * 128 + b % 128, j + 1) else num (acc * 128 + b % 128) (j + 1) s := rfl
          rw [en] at z
          by_cases hg : GRT < acc * 128 + b % 128
          · rw [if_pos hg] at z; exact nomatch z
          · rw [if_neg hg] at z
            by_cases hb : b < 128
            · rw [if_pos hb] at z; cases z; exact Nat.lt_succ_self _
            · rw [if_neg hb] at z; have := ih _ _ z; omega
      have := this _ _ _ h
      show none = if decide (x.2 ≤ j + 0) = true then some x else none
      rw [if_neg (by rw [decide_eq_false (by omega)]; decide)]
  | b :: s, acc, k + 1, j => by
    show (if GRT < acc * 128 + b % 128 then none else if b < 128 then some (acc * 128 + b % 128, j + 1) else num (acc * 128 + b % 128) (j + 1) (s.take k)) = Option.filter _ (if GRT < acc * 128 + b % 128 then none else if b < 128 then some (acc * 128 + b % 128, j + 1) else num (acc * 128 + b % 128) (j + 1) s)
    by_cases hg : GRT < acc * 128 + b % 128
    · rw [if_pos hg, if_pos hg]; rfl
    · rw [if_neg hg, if_neg hg]
      by_cases hb : b < 128
      · rw [if_pos hb, if_pos hb]
        show _ = if decide (j + 1 ≤ j + (k + 1)) = true then _ else _
        rw [if_pos (decide_eq_true (by omega))]
      · rw [if_neg hb, if_neg hb, num_take s _ k (j + 1)]
        refine congrArg (fun f => Option.filter f _) (funext fun x => ?_)
        exact decide_eq_decide.mpr (by omega)
theorem num_ge : ∀ (s : List Int) (acc : Int) (j : Nat) (x : Int × Nat), 0 ≤ acc → num acc j s = some x → 0 ≤ x.1 ∧ j < x.2 ∧ x.2 ≤ j + s.length ∧ acc * 128 ^ (x.2 - j) ≤ x.1
  | [], _, _, _, _, z => nomatch z
  | b :: s, acc, j, x, h0, z => by
    have en : num acc j (b :: s) = if GRT < acc * 128 + b % 128 then none else if b < 128 then some (acc * 128 + b % 128, j + 1) else num (acc * 128 + b % 128) (j + 1) s := rfl
    rw [en] at z
    by_cases hg : GRT < acc * 128 + b % 128
    · rw [if_pos hg] at z; exact nomatch z
    · rw [if_neg hg] at z
      have hm : 0 ≤ acc * 128 + b % 128 := by omega
      by_cases hb : b < 128
      · rw [if_pos hb] at z
        cases z
        refine ⟨hm, Nat.lt_succ_self _, by simp only [List.length_cons]; omega, ?_⟩
        rw [show j + 1 - j = 1 by omega]
        show acc * 128 ^ 1 ≤ acc * 128 + b % 128
        omega
      · rw [if_neg hb] at z
        obtain ⟨q0, q1, q2, q3⟩ := num_ge s _ (j + 1) x hm z
        refine ⟨q0, by omega, by simp only [List.length_cons]; omega, Int.le_trans ?_ q3⟩
        rw [show x.2 - j = (x.2 - (j + 1)) + 1 by omega, Int.pow_succ, Int.mul_comm (128 ^ _) 128, ← Int.mul_assoc]
        exact Int.mul_le_mul_of_nonneg_right (by omega) (Int.le_of_lt (Int.pow_pos (by decide)))
theorem numb_some {k : Nat} {s : List Int} {x : Int × Nat} (h : numb k s = some x) : 0 ≤ x.1 ∧ k < x.2 ∧ x.2 ≤ k + s.length := by
  unfold numb at h
  by_cases c : s.head? = some 128
  · rw [if_pos c] at h; exact nomatch h
  · rw [if_neg c] at h
    have := num_ge s 0 k x (Int.le_refl _) h
    exact ⟨this.1, this.2.1, this.2.2.1⟩
/-- a small number is read from three bytes -/
theorem numb_small {s : List Int} {x : Int × Nat} (hs : ∀ b ∈ s, Byt b) (h : numb 0 s = some x) (hx : x.1 ≤ 60000) : x.2 ≤ 3 := by
  unfold numb at h
  by_cases c : s.head? = some 128
  · rw [if_pos c] at h; exact nomatch h
  · rw [if_neg c] at h
    cases s with
    | nil => exact nomatch h
    | cons b s =>
      have hb0 := (hs b List.mem_cons_self).1
      have hb1 := (hs b List.mem_cons_self).2
      have hb2 : b ≠ 128 := fun z => c (by rw [z]; rfl)
      have en : num 0 0 (b :: s) = if GRT < 0 * 128 + b % 128 then none else if b < 128 then some (0 * 128 + b % 128, 1) else num (0 * 128 + b % 128) 1 s := rfl
      rw [en] at h
      by_cases hg : GRT < 0 * 128 + b % 128
      · rw [if_pos hg] at h; exact nomatch h
      · rw [if_neg hg] at h
        by_cases hb : b < 128
        · rw [if_pos hb] at h
          cases h
          exact (by decide : (1 : Nat) ≤ 3)
        · rw [if_neg hb] at h
          obtain ⟨_, q1, _, q3⟩ := num_ge s _ 1 x (by omega) h
          rcases Nat.lt_or_ge 3 x.2 with q | q
          · have p3 : (128 : Int) ^ 3 ≤ 128 ^ (x.2 - 1) := by
              have : (128 : Nat) ^ 3 ≤ 128 ^ (x.2 - 1) := Nat.pow_le_pow_right (by decide) (by omega)
              exact_mod_cast this
            have p4 : 1 * (128 : Int) ^ (x.2 - 1) ≤ (0 * 128 + b % 128) * 128 ^ (x.2 - 1) := Int.mul_le_mul_of_nonneg_right (by omega) (Int.le_of_lt (Int.pow_pos (by decide)))
            have p5 : (128 : Int) ^ 3 = 2097152 := by decide
            omega
          · exact q
theorem numb_take {s : List Int} {k : Nat} (hk : 0 < k) : numb 0 (s.take k) = (numb 0 s).filter fun x => decide (x.2 ≤ k) := by
  unfold numb
  rw [show (s.take k).head? = s.head? by cases s with | nil => rw [List.take_nil] | cons b s => obtain ⟨k, rfl⟩ : ∃ j, k = j + 1 := ⟨k - 1, by omega⟩; rfl]
  by_cases c : s.head? = some 128
  · rw [if_pos c, if_pos c]; rfl
  · rw [if_neg c, if_neg c, num_take]
    refine congrArg (fun f => Option.filter f _) (funext fun x => ?_)
    exact decide_eq_decide.mpr (by omega)
/-! # where a box stands -/
def ckb (k : Int) (b : List Int) : List Int := [sumB (k :: b) 1 / 256, sumB (k :: b) 1 % 256]
def hasStart (row : List Int) (at_ : Nat) : Bool := decide ((row.drop at_).take 3 = [0, 0, 1])
def sizeS (F : List Int) : Option (Int × Nat) :=
  if F.length < 1 then none else match numb 0 (F.take 1) with
  | some x => some x
  | none => if F.length < 2 then none else match numb 0 (F.take 2) with
    | some x => some x
    | none => if F.length < 3 then none else numb 0 (F.take 3)
/-- a size of the module's is the number of all contents -/
theorem size_numb {F : List Int} (hF : ∀ b ∈ F, Byt b) {x : Int × Nat} (hx : x.1 ≤ 60000) (hm : x.2 ≤ F.length) : sizeS F = some x ↔ numb 0 F = some x := by
  have tk : ∀ k, 0 < k → numb 0 (F.take k) = (numb 0 F).filter fun x => decide (x.2 ≤ k) := fun k h => numb_take h
  unfold sizeS
  rw [tk 1 (by decide), tk 2 (by decide), tk 3 (by decide)]
  cases e : numb 0 F with
  | none =>
    refine ⟨fun h => ?_, fun h => nomatch h⟩
    revert h
    show (if _ then none else (if _ then none else (if _ then none else none))) = some x → _
    split
    · exact fun h => nomatch h
    · split
      · exact fun h => nomatch h
      · split <;> exact fun h => nomatch h
  | some y =>
    have hy := numb_some e
    show (if F.length < 1 then none else match (if decide (y.2 ≤ 1) = true then some y else none) with
      | some x => some x
      | none => if F.length < 2 then none else match (if decide (y.2 ≤ 2) = true then some y else none) with
        | some x => some x
        | none => if F.length < 3 then none else if decide (y.2 ≤ 3) = true then some y else none) = some x ↔ _
    by_cases y1 : y.2 ≤ 1
    · rw [if_neg (by omega), if_pos (decide_eq_true y1)]
    · by_cases l1 : F.length < 1
      · rw [if_pos l1]
        exact ⟨fun h => (nomatch h), fun h => by cases h; omega⟩
      · rw [if_neg l1, if_neg (by rw [decide_eq_false y1]; decide)]
        show (if F.length < 2 then none else match (if decide (y.2 ≤ 2) = true then some y else none) with
          | some x => some x
          | none => if F.length < 3 then none else if decide (y.2 ≤ 3) = true then some y else none) = some x ↔ _
        by_cases l2 : F.length < 2
        · rw [if_pos l2]
          exact ⟨fun h => (nomatch h), fun h => by cases h; omega⟩
        · rw [if_neg l2]
          by_cases y2 : y.2 ≤ 2
          · rw [if_pos (decide_eq_true y2)]
          · rw [if_neg (by rw [decide_eq_false y2]; decide)]
            show (if F.length < 3 then none else if decide (y.2 ≤ 3) = true then some y else none) = some x ↔ _
            by_cases l3 : F.length < 3
            · rw [if_pos l3]
              exact ⟨fun h => (nomatch h), fun h => by cases h; omega⟩
            · rw [if_neg l3]
              by_cases y3 : y.2 ≤ 3
              · rw [if_pos (decide_eq_true y3)]
              · rw [if_neg (by rw [decide_eq_false y3]; decide)]
                exact ⟨fun h => (nomatch h), fun h => by cases h; exact absurd (numb_small hF e hx) y3⟩
/-- the box at a place: its kind, its body, its end -/
def boxC (row : List Int) (k : Int) (C : List (Int × Nat)) : Option (Tp3 Int (List Int) Int) := match numb 0 (fsC C) with
  | none => none
  | some x => if 60000 < x.1 then none else if C.length < x.2 + x.1.toNat + 2 then none else
    match C[x.2 + x.1.toNat + 1]? with
    | none => none
    | some e => if ((fsC C).drop (x.2 + x.1.toNat)).take 2 = ckb k (((fsC C).drop x.2).take x.1.toNat) ∧ (row.drop e.2).take 1 = [255] then some ⟨k, ((fsC C).drop x.2).take x.1.toNat, (e.2 : Int) + 1⟩ else none
theorem ix_in {l : List Int} {i : Nat} {x : Int} (h : l[i]? = some x) : ixR l (i : Int) = .ok x := by
  have hi : i < l.length := by
    rcases Nat.lt_or_ge i l.length with h' | h'
    · exact h'
    · rw [List.getElem?_eq_none h'] at h; exact nomatch h
  have e : l.drop i = x :: l.drop (i + 1) := by
    rw [List.getElem?_eq_getElem hi] at h
    cases h
    exact List.drop_eq_getElem_cons hi
  exact (atR e).1
theorem fsC_len (C : List (Int × Nat)) : (fsC C).length = C.length := List.length_map ..
theorem cut_neg2 {l : List Int} {j v : Nat} (h : l.length = j + v + 2) : cutL l (some (j : Int)) (some (-2)) = (l.drop j).take v := by
  unfold cutL
  have e : HT.sIx l.length l.length (some (-2)) = l.length - 2 := by
    show (if (-2 : Int) < 0 then ((-2 : Int) + (l.length : Int)).toNat else min (-2 : Int).toNat l.length) = _
    rw [if_pos (by decide)]
    omega
  rw [e, HT.sIx_nat, show min j l.length = j by omega, show l.length - 2 - j = v by omega]
theorem cut_tail2 {l : List Int} {n : Nat} (h : l.length = n + 2) : cutL l (some (-2)) none = l.drop n := by
  unfold cutL
  have e : HT.sIx l.length 0 (some (-2)) = n := by
    show (if (-2 : Int) < 0 then ((-2 : Int) + (l.length : Int)).toNat else min (-2 : Int).toNat l.length) = _
    rw [if_pos (by decide)]
    omega
  rw [e, HT.sIx_none]
  exact List.take_of_length_le (by rw [List.length_drop]; omega)
/-! # all boxes of a row -/
abbrev In3 := Tp3 Int Int (List Int)
theorem for_fm {α β R : Type} {f : α → List β → Res (Fl (List β) R)} {h : α → Option β} : ∀ {l : List α} {acc : List β}, acc.length + l.length < 1000000 → (∀ x ∈ l, ∀ acc : List β, acc.length < 1000000 → f x acc = .ok (.nx (acc ++ (h x).toList))) → forR l acc f = .ok (.nx (acc ++ l.filterMap h))
  | [], acc, _, _ => by
    rw [List.filterMap_nil, List.append_nil]
    rfl
  | x :: l, acc, hl, hf => by
    have hl' : acc.length + (l.length + 1) < 1000000 := hl
    show (Res.bind (f x acc) _) = _
    rw [hf x List.mem_cons_self acc (by omega)]
    show forR l (acc ++ (h x).toList) f = _
    have : (h x).toList.length ≤ 1 := by cases h x <;> simp
    rw [for_fm (by rw [List.length_append]; omega) fun y m => hf y (List.mem_cons_of_mem _ m)]
    cases e : h x with
    | none => rw [List.filterMap_cons_none e]; rw [show (none : Option β).toList = [] from rfl, List.append_nil]
    | some y => rw [List.filterMap_cons_some e]; rw [List.append_assoc]; rfl
theorem compL_fm {α β : Type} {f : α → Unit → Res (Option β × Unit)} {g : α → Option β} : ∀ {l : List α}, (∀ x ∈ l, f x () = .ok (g x, ())) → compL l () f = .ok (l.filterMap g, ())
  | [], _ => rfl
  | x :: l, h => by
    show (Res.bind (f x ()) _) = _
    rw [h x List.mem_cons_self]
    show (Res.bind (compL l () f) _) = _
    rw [compL_fm fun y m => h y (List.mem_cons_of_mem _ m)]
    cases e : g x with
    | none => rw [List.filterMap_cons_none e]; rfl
    | some y => rw [List.filterMap_cons_some e]; rfl
theorem compR_fm {α β : Type} {f : α → Unit → Res (Option β × Unit)} {g : α → Option β} {l : List α} (hl : l.length ≤ 1000000) (h : ∀ x ∈ l, f x () = .ok (g x, ())) : compR l () f = .ok (l.filterMap g, ()) := by
  have e : compR l () f = guardR (l.length ≤ 1000000) (compL l () f) := rfl
  rw [e]
  unfold guardR
  rw [if_pos hl, compL_fm h]
theorem mem_rg {lo hi x : Int} (h : x ∈ rngI lo hi) : lo ≤ x ∧ x < hi := by
  unfold rngI at h
  obtain ⟨i, m, rfl⟩ := List.mem_map.mp h
  have := List.mem_range.mp m
  omega
theorem rg_mem {lo hi x : Int} (h : lo ≤ x) (h' : x < hi) : x ∈ rngI lo hi := by
  unfold rngI
  exact List.mem_map.mpr ⟨(x - lo).toNat, List.mem_range.mpr (by omega), by omega⟩
theorem rg_len (lo hi : Int) : (rngI lo hi).length = (hi - lo).toNat := by unfold rngI; simp
theorem start_len {row : List Int} {at_ : Nat} (h : hasStart row at_ = true) : at_ + 3 ≤ row.length := by
  have := congrArg List.length (of_decide_eq_true h)
  rw [List.length_take, List.length_drop] at this
  have e : ([0, 0, 1] : List Int).length = 3 := rfl
  omega
theorem start_zero {row : List Int} {at_ : Nat} (h : hasStart row at_ = true) : row[at_]? = some 0 := by
  have := congrArg (fun l : List Int => l[0]?) (of_decide_eq_true h)
  rw [← Nat.add_zero at_, ← List.getElem?_drop]
  rw [List.getElem?_take_of_lt (by decide)] at this
  exact this
/-! # a box that was laid is there -/
/-- a box, byte for byte -/
def bxF (k : Int) (fg b : List Int) : List Int := ([0, 0, 1, k] ++ stL 0 ((fg ++ b) ++ ckb k b)) ++ [255]
/-- figures that are read as a number -/
def Fig (v : Nat) (fg : List Int) : Prop := (∀ r, numb 0 (fg ++ r) = some ((v : Int), fg.length)) ∧ ∀ b ∈ fg, Byt b
theorem fig_small {v : Nat} (h : v < 128) : Fig v [(v : Int)] := by
  refine ⟨fun r => ?_, fun b m => ?_⟩
  · show numb 0 ((v : Int) :: r) = _
    unfold numb
    rw [if_neg (fun z => by have : ((v : Int)) = 128 := by injection z
                            omega)]
    show (if GRT < 0 * 128 + (v : Int) % 128 then none else if (v : Int) < 128 then some (0 * 128 + (v : Int) % 128, 1) else _) = _
    have e : (0 : Int) * 128 + (v : Int) % 128 = (v : Int) := by omega
    rw [e, if_neg (show ¬ GRT < (v : Int) by unfold GRT; omega), if_pos (by omega)]
    rfl
  · rw [List.mem_singleton.mp m]
    exact ⟨by omega, by omega⟩
end A

set_option Elab.async false
set_option linter.all false
set_option maxRecDepth 100000
set_option maxHeartbeats 2000000
namespace A
open PySem PySem.Spec PyProof.Rows L2 Y
open Y.Enc (enc)
theorem abs_eq (i : Int) : absI i = (i.natAbs : Int) := by unfold absI; split <;> omega
def euF {R : Type} : Int × Int → Res (Fl (Int × Int) R) := fun a12 => (if (decide (0 < a12.2)) = true then guardR (0 < a12.2) <| lt ((a12.1 % a12.2) : Int) fun x16 => (.ok (.nx (a12.2, x16)) : Res (Fl (Int × Int) R)) else .ok (.bk (a12.1, a12.2)))
theorem euclid {R : Type} (n : Nat) : ∀ a b : Nat, b < n → whileR n ((a : Int), (b : Int)) (euF (R := R)) = .ok (.bk (((Nat.gcd a b : Nat) : Int), 0)) := by
  induction n with
  | zero => intro a b h; omega
  | succ n ih =>
    intro a b h
    unfold whileR
    by_cases hb : 0 < (b : Int)
    · have e1 : euF (R := R) ((a : Int), (b : Int)) = .ok (.nx ((b : Int), (a : Int) % (b : Int))) := by
        unfold euF
        rw [if_pos (decide_eq_true hb)]
        unfold guardR
        rw [if_pos hb]
        rfl
      rw [e1]
      show whileR n ((b : Int), (a : Int) % (b : Int)) _ = _
      have e : (a : Int) % (b : Int) = ((a % b : Nat) : Int) := (Int.natCast_emod a b).symm
      rw [e, ih b (a % b) (by have := Nat.mod_lt a (show b > 0 by omega); omega)]
      rw [Nat.gcd_comm a b, Nat.gcd_rec b a, Nat.gcd_comm]
    · have : b = 0 := by omega
      subst this
      simp [euF]
      rfl
theorem div_ok (a b : Int) : m_divisor a b = .ok (Int.gcd a b : Int) := by
  have e0 : m_divisor a b = (whileR ((absI b).natAbs + 1) (absI a, absI b) euF).bind (afterR fun a17 => .ok a17.1) := rfl
  rw [e0, abs_eq, abs_eq, Int.natAbs_natCast, euclid (b.natAbs + 1) a.natAbs b.natAbs (by omega)]
  rfl
theorem frac_facts {a b : Int} (hb : b ≠ 0) : ∃ s : Int, (if b < 0 then -(Int.gcd a b : Int) else (Int.gcd a b : Int)) = s ∧ s ≠ 0 ∧ s.natAbs ≤ b.natAbs ∧ Int.fdiv a s * s = a ∧ Int.fdiv b s * s = b ∧ 0 < Int.fdiv b s ∧ Int.gcd (Int.fdiv a s) (Int.fdiv b s) = 1 := by
  have hg : 0 < Int.gcd a b := Int.gcd_pos_of_ne_zero_right a hb
  have ha' : ((Int.gcd a b : Nat) : Int) ∣ a := Int.gcd_dvd_left ..
  have hb' : ((Int.gcd a b : Nat) : Int) ∣ b := Int.gcd_dvd_right ..
  generalize hG : Int.gcd a b = g at *
  refine ⟨_, rfl, ?_⟩
  obtain ⟨p, ep⟩ := ha'
  obtain ⟨q, eq⟩ := hb'
  have hgn : (g : Int) ≠ 0 := by omega
  have hpq : Int.gcd p q = 1 := by
    have e : Int.gcd ((g : Int) * p) ((g : Int) * q) = g := by rw [← ep, ← eq]; exact hG
    rw [Int.gcd_mul_left] at e
    have e2 : g * Int.gcd p q = g * 1 := by simpa using e
    exact Nat.eq_of_mul_eq_mul_left hg e2
  have hle : g ≤ b.natAbs := by
    rw [eq, Int.natAbs_mul]
    have : 0 < q.natAbs := Int.natAbs_pos.mpr (by rintro rfl; exact hb (by rw [eq]; simp))
    simpa using Nat.le_mul_of_pos_right g this
  by_cases hn : b < 0
  · rw [if_pos hn]
    have e1 : a = -p * -(g : Int) := by rw [ep, Int.neg_mul_neg, Int.mul_comm]
    have e2 : b = -q * -(g : Int) := by rw [eq, Int.neg_mul_neg, Int.mul_comm]
    have d1 : Int.fdiv a (-(g : Int)) = -p := by rw [e1]; exact Int.mul_fdiv_cancel _ (by omega)
    have d2 : Int.fdiv b (-(g : Int)) = -q := by rw [e2]; exact Int.mul_fdiv_cancel _ (by omega)
    rw [d1, d2]
    refine ⟨by omega, by omega, e1.symm, e2.symm, ?_, by simpa using hpq⟩
    rcases Int.lt_or_le q 0 with h | h
    · omega
    · have := Int.mul_nonneg (show (0 : Int) ≤ g by omega) h
      rw [← eq] at this
      exact absurd hn (by omega)
  · rw [if_neg hn]
    have e1 : a = p * (g : Int) := by rw [ep, Int.mul_comm]
    have e2 : b = q * (g : Int) := by rw [eq, Int.mul_comm]
    have d1 : Int.fdiv a (g : Int) = p := by rw [e1]; exact Int.mul_fdiv_cancel _ hgn
    have d2 : Int.fdiv b (g : Int) = q := by rw [e2]; exact Int.mul_fdiv_cancel _ hgn
    rw [d1, d2]
    refine ⟨hgn, by omega, e1.symm, e2.symm, ?_, hpq⟩
    rcases Int.lt_or_le 0 q with h | h
    · exact h
    · have := Int.mul_nonneg (show (0 : Int) ≤ g by omega) (show 0 ≤ -q by omega)
      rw [Int.mul_neg, ← eq] at this
      exact absurd hn (by omega)
/-- the fraction of a by b, in lowest terms -/
def FracOf (a b : Int) (f : Tp2 Int Int) : Prop := 0 < f.b ∧ Int.gcd f.a f.b = 1 ∧ f.a * b = a * f.b ∧ f.a.natAbs ≤ a.natAbs ∧ f.b.natAbs ≤ b.natAbs
theorem natAbs_le_of_mul {x s a : Int} (h : x * s = a) (hs : s ≠ 0) : x.natAbs ≤ a.natAbs := by
  rw [← h, Int.natAbs_mul]
  exact Nat.le_mul_of_pos_right _ (by omega)
/-- what both places are shared by -/
def shr (a b : Int) : Int := if b < 0 then -(Int.gcd a b : Int) else (Int.gcd a b : Int)
def lowT (a b : Int) : Tp2 Int Int := ⟨Int.fdiv a (shr a b), Int.fdiv b (shr a b)⟩
theorem shr_small {a b : Int} (hb : b ≠ 0) : shr a b ≠ 0 ∧ (shr a b).natAbs ≤ b.natAbs := by
  obtain ⟨s, e, h0, h1, _⟩ := frac_facts (a := a) hb
  unfold shr
  rw [e]
  exact ⟨h0, h1⟩
theorem lowT_of {a b : Int} (hb : b ≠ 0) : FracOf a b (lowT a b) := by
  obtain ⟨s, e, h0, h1, h2, h3, h4, h5⟩ := frac_facts (a := a) hb
  have es : shr a b = s := e
  unfold lowT
  rw [es]
  refine ⟨h4, h5, ?_, natAbs_le_of_mul h2 h0, natAbs_le_of_mul h3 h0⟩
  show Int.fdiv a s * b = a * Int.fdiv b s
  conv => lhs; rw [← h3]
  conv => rhs; rw [← h2]
  simp only [Int.mul_comm, Int.mul_left_comm, Int.mul_assoc]
theorem shr_log {a b : Int} {n : Nat} (hb : b ≠ 0) (hs : b.natAbs < 2 ^ n) (h0 : 0 < n) (h9 : n ≤ 9000) : (shr a b).natAbs.log2 < 9000 := Nat.lt_of_lt_of_le (log2_small (b := n) (Nat.lt_of_le_of_lt (shr_small hb).2 hs) h0) h9
theorem shr_bind {β : Type} {a b : Int} {k : Int → Res β} : ((if (decide (b < 0)) = true then lt ((-(Int.gcd a b : Int)) : Int) fun x28 => .ok x28 else .ok (Int.gcd a b : Int)) : Res (Int)).bind k = k (shr a b) := by
  unfold shr
  by_cases hn : b < 0
  · rw [if_pos (decide_eq_true hn), if_pos hn]; rfl
  · rw [if_neg (by simpa using hn), if_neg hn]; rfl
theorem dvd_of_cop {q p r : Int} (h : q ∣ p * r) (hg : Int.gcd p q = 1) : q ∣ r := by
  have h1 : q.natAbs ∣ p.natAbs * r.natAbs := by rw [← Int.natAbs_mul]; exact Int.natAbs_dvd_natAbs.mpr h
  have h2 : Nat.Coprime q.natAbs p.natAbs := (Nat.gcd_comm ..).trans hg
  exact Int.natAbs_dvd_natAbs.mp (Nat.Coprime.dvd_of_dvd_mul_left h2 h1)
theorem uniq {p q p' q' : Int} (h : p * q' = p' * q) (hg : Int.gcd p q = 1) (hg' : Int.gcd p' q' = 1) (hq : 0 < q) (hq' : 0 < q') : p = p' ∧ q = q' := by
  have d1 : q ∣ q' := dvd_of_cop ⟨p', by rw [h, Int.mul_comm]⟩ hg
  have d2 : q' ∣ q := dvd_of_cop ⟨p, by rw [← h, Int.mul_comm]⟩ hg'
  have e : q = q' := Int.dvd_antisymm (by omega) (by omega) d1 d2
  subst e
  exact ⟨Int.eq_of_mul_eq_mul_right (by omega) h, rfl⟩
/-- in lowest terms -/
def Low (f : Tp2 Int Int) : Prop := 0 < f.b ∧ Int.gcd f.a f.b = 1
theorem low_eq {f : Tp2 Int Int} {a b : Int} (hf : Low f) (hb : b ≠ 0) (h : f.a * b = a * f.b) : lowT a b = f := by
  obtain ⟨h1, h2, h3, _, _⟩ := lowT_of (a := a) hb
  generalize lowT a b = g at *
  obtain ⟨p, q⟩ := g
  obtain ⟨u, v⟩ := f
  obtain ⟨hv, hg⟩ := hf
  simp only at *
  have e : p * v = u * q := by
    apply Int.eq_of_mul_eq_mul_right hb
    grind
  obtain ⟨rfl, rfl⟩ := uniq e h2 hg h1 hv
  rfl
end A

set_option Elab.async false
set_option linter.all false
set_option maxRecDepth 100000
set_option maxHeartbeats 2000000
namespace A
open PySem PySem.Spec PyProof.Rows L2 Y
open Y.Enc (enc)
/-! # the bytes of numbers, and numbers read from them -/
/-- all bytes but the last one, of what stands ahead of it -/
def hi (n : Nat) : List Int := if h : n = 0 then [] else hi (n / 128) ++ [128 + (n : Int) % 128]
termination_by n
decreasing_by exact Nat.div_lt_self (Nat.pos_of_ne_zero h) (by decide)
theorem hi0 : hi 0 = [] := by rw [hi]; rfl
theorem hiS {n : Nat} (h : 0 < n) : hi n = hi (n / 128) ++ [128 + (n : Int) % 128] := by
  rw [hi, dif_neg (by omega)]
def wr (n : Nat) : List Int := hi (n / 128) ++ [(n : Int) % 128]
theorem wr_ne (n : Nat) : 0 < (wr n).length := by unfold wr; rw [List.length_append]; exact Nat.succ_pos _
theorem hi_len : ∀ (k n : Nat), n < 128 ^ k → (hi n).length ≤ k
  | 0, n, h => by
    have : n = 0 := by rw [Nat.pow_zero] at h; omega
    subst this
    rw [hi0]; exact Nat.le_refl _
  | k + 1, n, h => by
    rcases Nat.eq_zero_or_pos n with rfl | h0
    · rw [hi0]; exact Nat.zero_le _
    · rw [hiS h0, List.length_append]
      have := hi_len k (n / 128) (by rw [Nat.div_lt_iff_lt_mul (by decide)]; rw [Nat.pow_succ] at h; exact h)
      show _ + 1 ≤ _
      omega
theorem wr_len {k n : Nat} (h : n < 128 ^ (k + 1)) : (wr n).length ≤ k + 1 := by
  unfold wr
  rw [List.length_append]
  have := hi_len k (n / 128) (by rw [Nat.div_lt_iff_lt_mul (by decide)]; rw [Nat.pow_succ] at h; exact h)
  show _ + 1 ≤ _
  omega
theorem hi_byt : ∀ (n : Nat), ∀ b ∈ hi n, Byt b := by
  intro n
  induction n using Nat.strongRecOn with
  | _ n ih =>
    intro b m
    rcases Nat.eq_zero_or_pos n with rfl | h0
    · rw [hi0] at m; exact nomatch m
    · rw [hiS h0] at m
      rcases List.mem_append.mp m with m | m
      · exact ih _ (Nat.div_lt_self h0 (by decide)) b m
      · rw [List.mem_singleton.mp m]
        constructor <;> omega
theorem wr_byt {n : Nat} : ∀ b ∈ wr n, Byt b := fun b m => by
  rcases List.mem_append.mp m with m | m
  · exact hi_byt _ b m
  · rw [List.mem_singleton.mp m]
    constructor <;> omega
theorem hi_head : ∀ (n : Nat), 0 < n → ∃ b r, hi n = b :: r ∧ 128 < b := by
  intro n
  induction n using Nat.strongRecOn with
  | _ n ih =>
    intro h0
    rw [hiS h0]
    rcases Nat.eq_zero_or_pos (n / 128) with h | h
    · rw [h, hi0]
      exact ⟨_, _, rfl, by omega⟩
    · obtain ⟨b, r, e, hb⟩ := ih _ (Nat.div_lt_self h0 (by decide)) h
      rw [e]
      exact ⟨b, _, rfl, hb⟩
theorem hi_no {n : Nat} {s : List Int} (hs : s.head? ≠ some 128) : (hi n ++ s).head? ≠ some 128 := by
  rcases Nat.eq_zero_or_pos n with rfl | h
  · rw [hi0]; exact hs
  · obtain ⟨b, r, e, hb⟩ := hi_head n h
    rw [e]
    intro z
    injection z with z
    omega
theorem num_hi : ∀ (n : Nat) (s : List Int) (k : Nat), (n : Int) ≤ GRT → num 0 k (hi n ++ s) = num n (k + (hi n).length) s := by
  intro n
  induction n using Nat.strongRecOn with
  | _ n ih =>
    intro s k hg
    rcases Nat.eq_zero_or_pos n with rfl | h0
    · rw [hi0]; rfl
    · rw [hiS h0, List.append_assoc, ih _ (Nat.div_lt_self h0 (by decide)) _ _ (by omega)]
      show num ((n / 128 : Nat) : Int) _ ((128 + (n : Int) % 128) :: s) = _
      have e : ((n / 128 : Nat) : Int) * 128 + (128 + (n : Int) % 128) % 128 = n := by omega
      show (if GRT < ((n / 128 : Nat) : Int) * 128 + (128 + (n : Int) % 128) % 128 then none else if 128 + (n : Int) % 128 < 128 then _ else num (((n / 128 : Nat) : Int) * 128 + (128 + (n : Int) % 128) % 128) _ s) = _
      rw [e, if_neg (by omega), if_neg (by omega), List.length_append]
      rfl
/-- a number is read where it was written -/
theorem numb_wr {n k : Nat} {s : List Int} (hg : (n : Int) ≤ GRT) : numb k (wr n ++ s) = some ((n : Int), k + (wr n).length) := by
  unfold numb wr
  rw [List.append_assoc, if_neg (hi_no (by simp; omega)), num_hi _ _ _ (by omega)]
  show (if GRT < ((n / 128 : Nat) : Int) * 128 + ((n : Int) % 128) % 128 then none else if (n : Int) % 128 < 128 then some (((n / 128 : Nat) : Int) * 128 + ((n : Int) % 128) % 128, _) else _) = _
  have e : ((n / 128 : Nat) : Int) * 128 + ((n : Int) % 128) % 128 = n := by omega
  rw [e, if_neg (by omega), if_pos (by omega), List.length_append]
  rfl
/-- where its last byte is left out none stands -/
theorem numb_cut {n k : Nat} (hg : (n : Int) ≤ GRT) : numb k (hi (n / 128)) = none := by
  have e := num_hi (n / 128) [] k (by omega)
  rw [List.append_nil] at e
  have h := hi_no (n := n / 128) (s := []) (by simp)
  rw [List.append_nil] at h
  unfold numb
  rw [if_neg h, e]
  rfl
theorem pow_lim {k : Nat} (h : (128 : Nat) ^ k ≤ 10 ^ 60) : k < 100 := by
  rcases Nat.lt_or_ge k 100 with h' | h'
  · exact h'
  · have : (128 : Nat) ^ 100 ≤ 128 ^ k := Nat.pow_le_pow_right (by decide) h'
    have : (10 : Nat) ^ 60 < 128 ^ 100 := by decide +kernel
    omega
theorem gpos {α : Type} {p : Prop} [Decidable p] {m : Res α} (h : p) : guardR p m = m := if_pos h
theorem whole_n {n : Nat} (hg : (n : Int) ≤ GRT) : m_is_whole (enc (n : Int)) 0 GRT = .ok true := by
  show Res.ok (decide (0 ≤ (n : Int)) && decide ((n : Int) ≤ GRT)) = _
  rw [decide_eq_true (by omega), decide_eq_true hg]
  rfl
theorem written_m {n : Nat} (hg : (n : Int) ≤ GRT) : m_written (n : Int) = .ok (wr n) := by
  unfold m_written
  rw [whole_n hg]
  show Res.bind (whileR _ _ _) _ = _
  refine (whileEq (S := Int × List Int) (g := fun s => .ok (hi s.1.toNat ++ s.2.reverse)) (fun s => 0 ≤ s.1 ∧ 128 ^ s.2.length * s.1.toNat ≤ 10 ^ 60) (fun s => s.1.toNat) ?_ _ (by show ((n : Int) / 128).toNat < _; omega) ⟨by show 0 ≤ (n : Int) / 128; omega, by show 128 ^ 1 * ((n : Int) / 128).toNat ≤ _; have : (n : Int) ≤ 10 ^ 60 := hg; omega⟩).trans ?_
  · rintro ⟨m, acc⟩ ⟨h0, h1⟩
    simp only at h0 h1
    obtain ⟨i, rfl⟩ : ∃ i : Nat, m = (i : Int) := ⟨m.toNat, by omega⟩
    simp only [show ((i : Int)).toNat = i by omega] at h1 ⊢
    by_cases c : 0 < (i : Int)
    · have hl : acc.length < 100 := pow_lim (Nat.le_trans (Nat.le_mul_of_pos_right _ (by omega)) h1)
      refine .inl ⟨((i : Int) / 128, acc ++ [128 + (i : Int) % 128]), ?_, ⟨by simp only; omega, ?_⟩, by simp only; omega, ?_⟩
      · rw [if_pos (decide_eq_true c)]
        unfold guardR
        rw [if_pos (by omega)]
        rfl
      · simp only [List.length_append, List.length_singleton, show ((i : Int) / 128).toNat = i / 128 by omega, Nat.pow_succ]
        refine Nat.le_trans ?_ h1
        rw [Nat.mul_assoc]
        exact Nat.mul_le_mul_left _ (Nat.mul_div_le i 128)
      · simp only [show ((i : Int) / 128).toNat = i / 128 by omega]
        rw [List.reverse_append, hiS (n := i) (by omega), List.append_assoc]
        rfl
    · refine .inr (.inl ⟨((i : Int), acc), ?_, ?_⟩)
      · rw [if_neg (by rw [decide_eq_false c]; decide)]
      · have : i = 0 := by omega
        subst this
        rw [hi0]
        rfl
  · show Res.ok (hi ((n : Int) / 128).toNat ++ _) = _
    rw [show ((n : Int) / 128).toNat = n / 128 by omega]
    rfl
theorem figures_l {n : Nat} (hg : (n : Int) ≤ GRT) : l_figures (n : Int) = .ok (wr n) := by
  unfold l_figures
  refine (whileEq (S := Int × List Int) (g := fun s => .ok (hi (s.1.toNat / 128) ++ s.2)) (fun s => 0 ≤ s.1 ∧ 128 ^ (s.2.length - 1) * s.1.toNat ≤ 10 ^ 60 ∧ 0 < s.2.length) (fun s => s.1.toNat) ?_ _ (by show ((n : Int)).toNat < _; omega) ⟨by show 0 ≤ (n : Int); omega, by show 128 ^ 0 * ((n : Int)).toNat ≤ _; have : (n : Int) ≤ 10 ^ 60 := hg; omega, by show 0 < 1; decide⟩).trans ?_
  · rintro ⟨m, acc⟩ ⟨h0, h1, h2⟩
    simp only at h0 h1 h2
    obtain ⟨i, rfl⟩ : ∃ i : Nat, m = (i : Int) := ⟨m.toNat, by omega⟩
    simp only [show ((i : Int)).toNat = i by omega] at h1 ⊢
    by_cases c : 128 ≤ (i : Int)
    · have hl : acc.length - 1 < 100 := pow_lim (Nat.le_trans (Nat.le_mul_of_pos_right _ (by omega)) h1)
      refine .inl ⟨((i : Int) / 128, (128 + (i : Int) / 128 % 128) :: acc), ?_, ⟨by simp only; omega, ?_, Nat.succ_pos _⟩, by simp only; omega, ?_⟩
      · rw [if_pos (decide_eq_true c)]
        show guardR _ _ = _
        unfold guardR
        rw [if_pos (by show 1 + _ ≤ _; omega)]
        rfl
      · simp only [List.length_cons, show ((i : Int) / 128).toNat = i / 128 by omega]
        obtain ⟨k, hk⟩ : ∃ k, acc.length = k + 1 := ⟨acc.length - 1, by omega⟩
        rw [hk] at h1 ⊢
        simp only [Nat.add_sub_cancel] at h1 ⊢
        rw [Nat.pow_succ, Nat.mul_assoc]
        exact Nat.le_trans (Nat.mul_le_mul_left _ (Nat.mul_div_le i 128)) h1
      · simp only [show ((i : Int) / 128).toNat = i / 128 by omega]
        rw [hiS (n := i / 128) (by omega), List.append_assoc]
        rfl
    · refine .inr (.inl ⟨((i : Int), acc), ?_, ?_⟩)
      · rw [if_neg (by rw [decide_eq_false c]; decide)]
      · rw [show i / 128 = 0 by omega, hi0]
        rfl
  · show Res.ok (hi (((n : Int)).toNat / 128) ++ _) = _
    rw [show ((n : Int)).toNat = n by omega]
    rfl
/-- the bytes of numbers, one after another -/
def wrs (ns : List Int) : List Int := ns.flatMap fun n => wr n.toNat
theorem wrs_cons (n : Int) (ns : List Int) : wrs (n :: ns) = wr n.toNat ++ wrs ns := List.flatMap_cons
theorem wrs_nil : wrs [] = [] := rfl
theorem wrs_app (a b : List Int) : wrs (a ++ b) = wrs a ++ wrs b := List.flatMap_append
theorem wrs_byt {ns : List Int} : ∀ b ∈ wrs ns, Byt b := fun b m => by
  obtain ⟨n, _, h⟩ := List.mem_flatMap.mp m
  exact wr_byt b h
/-- a number that may be written, of at most so many bytes -/
def Nm (k : Nat) (n : Int) : Prop := 0 ≤ n ∧ n ≤ GRT ∧ n.toNat < 128 ^ (k + 1)
theorem wrs_len {k : Nat} : ∀ {ns : List Int}, (∀ n ∈ ns, Nm k n) → (wrs ns).length ≤ (k + 1) * ns.length
  | [], _ => Nat.zero_le _
  | n :: ns, h => by
    rw [wrs_cons, List.length_append, List.length_cons, Nat.mul_succ]
    have := wr_len (h n List.mem_cons_self).2.2
    have := wrs_len fun m q => h m (List.mem_cons_of_mem _ q)
    omega
theorem nm_nat {k : Nat} {n : Int} (h : Nm k n) : ∃ m : Nat, n = (m : Int) ∧ (m : Int) ≤ GRT := ⟨n.toNat, by have := h.1; omega, by have := h.1; have := h.2.1; omega⟩
theorem all_m {k : Nat} {ns : List Int} (h : ∀ n ∈ ns, Nm k n) (hl : (k + 1) * ns.length ≤ 900000) : m_all_written ns = .ok (wrs ns) := by
  unfold m_all_written
  have main : ∀ (ns acc : List Int), (∀ n ∈ ns, Nm k n) → acc.length + (k + 1) * ns.length ≤ 900000 → forR ns acc (fun x19 (a18 : (List Int)) => ((m_written x19).noErr).bind fun x26 => guardR (a18.length + x26.length ≤ 1000000) <| (.ok (.nx (a18 ++ x26)) : Res (Fl (List Int) (List Int)))) = .ok (.nx (acc ++ wrs ns)) := by
    intro ns
    induction ns with
    | nil => intro acc _ _; rw [wrs_nil, List.append_nil]; rfl
    | cons n ns ih =>
      intro acc h hl
      obtain ⟨m, rfl, hg⟩ := nm_nat (h n List.mem_cons_self)
      have hw := wr_len (h (m : Int) List.mem_cons_self).2.2
      rw [show ((m : Int)).toNat = m by omega] at hw
      rw [List.length_cons, Nat.mul_succ] at hl
      show Res.bind (Res.bind (m_written (m : Int)).noErr _) _ = _
      rw [written_m hg]
      show Res.bind (guardR _ _) _ = _
      rw [gpos (by omega)]
      show forR ns (acc ++ wr m) _ = _
      rw [ih _ (fun n q => h n (List.mem_cons_of_mem _ q)) (by rw [List.length_append]; omega), wrs_cons, show ((m : Int)).toNat = m by omega, List.append_assoc]
  rw [main ns [] h (by show 0 + _ ≤ _; omega)]
  rfl
theorem all_l {k : Nat} {ns : List Int} (h : ∀ n ∈ ns, Nm k n) (hl : (k + 1) * ns.length ≤ 900000) : l_all_figures ns = .ok (wrs ns) := by
  unfold l_all_figures
  have main : ∀ (ns acc : List Int), (∀ n ∈ ns, Nm k n) → acc.length + (k + 1) * ns.length ≤ 900000 → forR ns acc (fun x19 (a18 : (List Int)) => (l_figures x19).bind fun x26 => guardR (a18.length + x26.length ≤ 1000000) <| (.ok (.nx (a18 ++ x26)) : Res (Fl (List Int) (List Int)))) = .ok (.nx (acc ++ wrs ns)) := by
    intro ns
    induction ns with
    | nil => intro acc _ _; rw [wrs_nil, List.append_nil]; rfl
    | cons n ns ih =>
      intro acc h hl
      obtain ⟨m, rfl, hg⟩ := nm_nat (h n List.mem_cons_self)
      have hw := wr_len (h (m : Int) List.mem_cons_self).2.2
      rw [show ((m : Int)).toNat = m by omega] at hw
      rw [List.length_cons, Nat.mul_succ] at hl
      show Res.bind (Res.bind (l_figures (m : Int)) _) _ = _
      rw [figures_l hg]
      show Res.bind (guardR _ _) _ = _
      rw [gpos (by omega)]
      show forR ns (acc ++ wr m) _ = _
      rw [ih _ (fun n q => h n (List.mem_cons_of_mem _ q)) (by rw [List.length_append]; omega), wrs_cons, show ((m : Int)).toNat = m by omega, List.append_assoc]
  rw [main ns [] h (by show 0 + _ ≤ _; omega)]
  rfl
/-! ## reading -/
/-- the reader at a place of a row -/
def rdr (row : List Int) (k : Nat) : List D := [enc row, .int (k : Int)]
theorem dec_row : ∀ (l : List Int), decs (α := Int) (l.map enc) = some l
  | [] => rfl
  | i :: l => by
    show Option.bind (some i) (fun x => Option.bind (decs (l.map enc)) fun xs => some (x :: xs)) = _
    rw [dec_row l]
    rfl
theorem asD_row (l : List Int) : asD (List Int) (enc l) = .ok l := by
  unfold asD
  rw [show Dec.dec (enc l) = some l from dec_row l]
def read1 (x : Option (Tp2 Int Int)) (row : List Int) (lo hi' : Int) : Res (Int × List D) := match x with
  | none => .err ⟨"NoBody", []⟩
  | some x => if decide (lo ≤ x.a) = true then (if decide (x.a ≤ hi') = true then .ok (x.a, [enc row, enc (x.b : Int)]) else .err ⟨"NoBody", []⟩) else .err ⟨"NoBody", []⟩
theorem number_eq {row : List Int} {k : Nat} {lo hi' : Int} (hl : row.length ≤ 900000) (hk : k ≤ row.length) : m_Numbers__number (rdr row k) lo hi' = read1 (tpN (numb k (row.drop k))) row lo hi' := by
  unfold m_Numbers__number
  show Res.bind (asD (List Int) (enc row)) _ = _
  rw [asD_row]
  show Res.bind (m_number_at row (k : Int)).noErr _ = _
  rw [number_m hl hk]
  cases numb k (row.drop k) <;> rfl
/-- the number that comes is read -/
theorem read_num {pre s : List Int} {n : Int} {k : Nat} {lo hi' : Int} (hl : (pre ++ (wr n.toNat ++ s)).length ≤ 900000) (hk : pre.length = k) (h0 : 0 ≤ n) (hg : n ≤ GRT) (h1 : lo ≤ n) (h2 : n ≤ hi') : m_Numbers__number (rdr (pre ++ (wr n.toNat ++ s)) k) lo hi' = .ok (n, rdr (pre ++ (wr n.toNat ++ s)) (k + (wr n.toNat).length)) := by
  subst hk
  rw [number_eq hl (by rw [List.length_append]; omega), List.drop_left, numb_wr (by omega)]
  have e : ((n.toNat : Nat) : Int) = n := by omega
  show (if decide (lo ≤ ((n.toNat : Nat) : Int)) = true then (if decide (((n.toNat : Nat) : Int) ≤ hi') = true then _ else _) else _) = _
  rw [e, if_pos (decide_eq_true h1), if_pos (decide_eq_true h2)]
  rfl
/-- where it breaks off nothing is read -/
theorem read_cut {pre : List Int} {n : Int} {k : Nat} {lo hi' : Int} (hl : (pre ++ hi (n.toNat / 128)).length ≤ 900000) (hk : pre.length = k) (h0 : 0 ≤ n) (hg : n ≤ GRT) : m_Numbers__number (rdr (pre ++ hi (n.toNat / 128)) k) lo hi' = .err ⟨"NoBody", []⟩ := by
  subst hk
  rw [number_eq hl (by rw [List.length_append]; omega), List.drop_left, numb_cut (by omega)]
  rfl
theorem wrs_cut {ns : List Int} {n : Int} : (wrs (ns ++ [n])).take ((wrs (ns ++ [n])).length - 1) = wrs ns ++ hi (n.toNat / 128) := by
  rw [wrs_app, show wrs [n] = wr n.toNat from by rw [wrs_cons, wrs_nil, List.append_nil]]
  unfold wr
  rw [← List.append_assoc, List.length_append, show ([(n.toNat : Int) % 128] : List Int).length = 1 from rfl, Nat.add_sub_cancel, List.take_left]
end A
namespace A
open PySem PySem.Spec PyProof.Rows L2 Y
open Y.Enc (enc)
/-! ## things that are read one after another -/
/-- f reads what w lays, as v -/
def Rds {β γ : Type} (f : List D → Res (β × List D)) (w : γ → List Int) (v : γ → β) (g : γ) : Prop := ∀ pre s : List Int, (pre ++ (w g ++ s)).length ≤ 900000 → f (rdr (pre ++ (w g ++ s)) pre.length) = .ok (v g, rdr (pre ++ (w g ++ s)) (pre.length + (w g).length))
/-- f is refused where c breaks off -/
def Cut {β : Type} (f : List D → Res (β × List D)) (c : List Int) : Prop := ∀ pre : List Int, (pre ++ c).length ≤ 900000 → f (rdr (pre ++ c) pre.length) = .err ⟨"NoBody", []⟩
section
variable {β γ : Type} {f : List D → Res (β × List D)} {w : γ → List Int} {v : γ → β}
theorem compL_rds : ∀ (gs : List γ) (l : List Int) (pre s : List Int), l.length = gs.length → (∀ g ∈ gs, Rds f w v g) → (pre ++ (gs.flatMap w ++ s)).length ≤ 900000 →
    compL l (rdr (pre ++ (gs.flatMap w ++ s)) pre.length) (fun _ a => (f a).bind fun x => .ok (some x.1, x.2)) = .ok (gs.map v, rdr (pre ++ (gs.flatMap w ++ s)) (pre.length + (gs.flatMap w).length))
  | [], [], pre, s, _, _, _ => rfl
  | [], _ :: _, _, _, h, _, _ => nomatch h
  | _ :: _, [], _, _, h, _, _ => nomatch h
  | g :: gs, i :: l, pre, s, hl, hf, hz => by
    have e1 : pre ++ ((g :: gs).flatMap w ++ s) = pre ++ (w g ++ (gs.flatMap w ++ s)) := by rw [List.flatMap_cons, List.append_assoc]
    have e2 : pre ++ (w g ++ (gs.flatMap w ++ s)) = (pre ++ w g) ++ (gs.flatMap w ++ s) := (List.append_assoc ..).symm
    rw [e1] at hz ⊢
    show Res.bind (Res.bind (f _) _) _ = _
    rw [hf g List.mem_cons_self pre _ hz]
    show Res.bind (compL l (rdr (pre ++ (w g ++ (gs.flatMap w ++ s))) (pre.length + (w g).length)) _) _ = _
    rw [e2] at hz ⊢
    rw [← List.length_append, compL_rds gs l (pre ++ w g) s (Nat.succ.inj hl) (fun x m => hf x (List.mem_cons_of_mem _ m)) hz, List.flatMap_cons, List.length_append, List.length_append, Nat.add_assoc]
    rfl
theorem compL_cut {c : List Int} (hc : Cut f c) : ∀ (gs : List γ) (l : List Int) (pre : List Int), gs.length < l.length → (∀ g ∈ gs, Rds f w v g) → (pre ++ (gs.flatMap w ++ c)).length ≤ 900000 →
    compL l (rdr (pre ++ (gs.flatMap w ++ c)) pre.length) (fun _ a => (f a).bind fun x => .ok (some x.1, x.2)) = .err ⟨"NoBody", []⟩
  | _, [], _, h, _, _ => absurd h (Nat.not_lt_zero _)
  | [], i :: l, pre, _, _, hz => by
    show Res.bind (Res.bind (f _) _) _ = _
    rw [show ([] : List γ).flatMap w ++ c = c from rfl] at hz ⊢
    rw [hc pre hz]
    rfl
  | g :: gs, i :: l, pre, hl, hf, hz => by
    have e1 : pre ++ ((g :: gs).flatMap w ++ c) = pre ++ (w g ++ (gs.flatMap w ++ c)) := by rw [List.flatMap_cons, List.append_assoc]
    have e2 : pre ++ (w g ++ (gs.flatMap w ++ c)) = (pre ++ w g) ++ (gs.flatMap w ++ c) := (List.append_assoc ..).symm
    rw [e1] at hz ⊢
    show Res.bind (Res.bind (f _) _) _ = _
    rw [hf g List.mem_cons_self pre _ hz]
    show Res.bind (compL l (rdr (pre ++ (w g ++ (gs.flatMap w ++ c))) (pre.length + (w g).length)) _) _ = _
    rw [e2] at hz ⊢
    rw [← List.length_append, compL_cut hc gs l (pre ++ w g) (Nat.lt_of_succ_lt_succ hl) (fun x m => hf x (List.mem_cons_of_mem _ m)) hz]
    rfl
end
/-- one number within bounds -/
theorem rds_num {lo hi' n : Int} (h0 : 0 ≤ n) (hg : n ≤ GRT) (h1 : lo ≤ n) (h2 : n ≤ hi') : Rds (fun a => m_Numbers__number a lo hi') (fun n : Int => wr n.toNat) (fun n => n) n := fun pre s hl => read_num hl rfl h0 hg h1 h2
theorem cut_num {lo hi' n : Int} (h0 : 0 ≤ n) (hg : n ≤ GRT) : Cut (fun a => m_Numbers__number a lo hi') (hi (n.toNat / 128)) := fun pre hl => read_cut hl rfl h0 hg
/-- nothing at all -/
theorem cut_nil {lo hi' : Int} : Cut (fun a => m_Numbers__number a lo hi') [] := fun pre hl => by
  have := cut_num (lo := lo) (hi' := hi') (n := 0) (by decide) (by decide) pre
  rw [show hi ((0 : Int).toNat / 128) = [] from hi0] at this
  exact this hl
theorem eqOk_lst {α : Type} [Enc α] {n : Nat} : ∀ {l : List α}, (∀ x ∈ l, eqOk n (enc x) = true) → eqOks n (l.map enc) = true
  | [], _ => rfl
  | x :: l, h => by
    show (eqOk n (enc x) && eqOks n (l.map enc)) = true
    rw [h x List.mem_cons_self, eqOk_lst fun y m => h y (List.mem_cons_of_mem _ m)]
    rfl
theorem same {d : D} (h : eqOk 20 d = true) : okEq d d ∧ eqD d d = true := ⟨okEq_of h h, eqD_refl (eqOk_flat _ 20 h).1⟩
theorem mapD (l : List D) : l.map (enc : D → D) = l := List.map_id l
theorem row_more {l : List Int} {b : Int} : eqD (enc l) (enc (l ++ [b])) = false := by
  rw [eq_rows]
  refine decide_eq_false fun e => ?_
  have := congrArg List.length e
  rw [List.length_append, List.length_singleton] at this
  omega
theorem cut_most {l : List Int} : cutL l none (some (-1)) = l.take (l.length - 1) := by
  rw [A.cut_last, List.dropLast_eq_take]
end A
namespace A
open PySem PySem.Spec PyProof.Rows L2 Y
open Y.Enc (enc)
section
variable {β γ : Type} {f : List D → Res (β × List D)} {w : γ → List Int} {v : γ → β} {g : γ}
theorem Rds.use (h : Rds f w v g) {row pre s : List Int} {k : Nat} (e : row = pre ++ (w g ++ s)) (hk : k = pre.length) (hz : row.length ≤ 900000) : f (rdr row k) = .ok (v g, rdr row (k + (w g).length)) := by
  subst e hk
  exact h pre s hz
theorem Cut.use {c : List Int} (h : Cut f c) {row pre : List Int} {k : Nat} (e : row = pre ++ c) (hk : k = pre.length) (hz : row.length ≤ 900000) : f (rdr row k) = .err ⟨"NoBody", []⟩ := by
  subst e hk
  exact h pre hz
end
/-- all bytes but the last one -/
def cutB (ns : List Int) : List Int := (wrs ns).take ((wrs ns).length - 1)
theorem wrs_ne {n : Int} {ns : List Int} : 0 < (wrs (n :: ns)).length := by
  rw [wrs_cons, List.length_append]
  have := wr_ne n.toNat
  omega
theorem cutB_app {ms ns : List Int} (h : 0 < (wrs ns).length) : cutB (ms ++ ns) = wrs ms ++ cutB ns := by
  unfold cutB
  rw [wrs_app, List.length_append, List.take_append, show (wrs ms).length + (wrs ns).length - 1 - (wrs ms).length = (wrs ns).length - 1 by omega, List.take_of_length_le (by omega)]
theorem cutB_one {n : Int} : cutB [n] = hi (n.toNat / 128) := by
  have := wrs_cut (ns := []) (n := n)
  exact this
theorem wrs1 (n : Int) : wrs [n] = wr n.toNat := by rw [wrs_cons, wrs_nil, List.append_nil]
theorem rds1 {lo hi' n : Int} (h0 : 0 ≤ n) (hg : n ≤ GRT) (h1 : lo ≤ n) (h2 : n ≤ hi') : Rds (fun a => m_Numbers__number a lo hi') (fun n : Int => wrs [n]) (fun n => n) n := fun pre s hl => by
  have := rds_num (lo := lo) (hi' := hi') h0 hg h1 h2 pre s
  simp only [wrs1] at hl ⊢
  exact this hl
theorem cut1 {lo hi' n : Int} (h0 : 0 ≤ n) (hg : n ≤ GRT) : Cut (fun a => m_Numbers__number a lo hi') (cutB [n]) := by
  rw [cutB_one]
  exact cut_num h0 hg
theorem Is.bind {α β : Type} {m : Res β} {k : β → Res α} {a : β} {x : Res α} (e : m = .ok a) (h : k a = x) : m.bind k = x := by rw [e]; exact h
theorem Is.bindX {α β : Type} {m : Res β} {k : β → Res α} {a : Err} (e : m = .err a) : m.bind k = .err a := by rw [e]; rfl
theorem Is.iteT {α : Type} {m m' x : Res α} {c : Bool} (hc : c = true) (h : m = x) : (if c = true then m else m') = x := by rw [if_pos hc]; exact h
theorem Is.iteF {α : Type} {m m' x : Res α} {c : Bool} (hc : c = false) (h : m' = x) : (if c = true then m else m') = x := by rw [hc]; exact h
theorem Is.guard {α : Type} {m x : Res α} {p : Prop} [Decidable p] (hp : p) (h : m = x) : guardR p m = x := by unfold guardR; rw [if_pos hp]; exact h
end A

set_option Elab.async false
set_option linter.all false
set_option maxRecDepth 100000
set_option maxHeartbeats 2000000
namespace A
open PySem PySem.Spec PyProof.Rows L2 Y
open Y.Enc (enc)
abbrev Fr := Tp2 Int Int
abbrev Ed := Tp3 Fr (Option Fr) Fr
abbrev Ln := Tp3 Int Int (List Ed)
abbrev Hd := Tp3 Int Int (List Ln)
abbrev T30 : Int := 1000000000000000000000000000000
structure MoF (f : Fr) : Prop where
  low : Low f
  a0 : 0 ≤ f.a
  a1 : f.a ≤ T30
  b1 : f.b ≤ T30
structure GoodEd (e : Ed) : Prop where
  s : MoF e.a
  p : 0 < e.a.a
  r : match e.b with | none => e.c = ⟨0, 1⟩ | some f => MoF f ∧ MoF e.c
theorem isT : isS "tuple" "tuple" = true := by decide +kernel
theorem isLi : isS "list" "list" = true := by decide +kernel
theorem isfrac (p q : Int) : m_is_fraction (.tup [.int p, .int q]) = .ok (decide (0 < q) && decide (Int.gcd p q = 1)) := by
  have e : m_is_fraction (.tup [.int p, .int q]) = (if (decide (q < 1)) = true then .ok false else (m_divisor p q).bind fun x42 => .ok (decide (x42 = 1))) := rfl
  rw [e]
  by_cases h : q < 1
  · rw [if_pos (decide_eq_true h), decide_eq_false (by omega)]; rfl
  · rw [if_neg (by simpa using h), div_ok, decide_eq_true (by omega)]
    show Res.ok (decide (((Int.gcd p q : Nat) : Int) = 1)) = Res.ok (true && decide (Int.gcd p q = 1))
    rw [Bool.true_and]
    exact congrArg Res.ok (decide_eq_decide.mpr (by omega))
theorem isfracF {f : Fr} (h : Low f) : m_is_fraction (enc f) = .ok true := (isfrac f.a f.b).trans (by rw [decide_eq_true h.1, decide_eq_true h.2]; rfl)
theorem ismomF {f : Fr} (h : MoF f) : m_is_moment (enc f) = .ok true := by
  unfold m_is_moment
  rw [isfracF h.low]
  show Res.ok (decide (0 ≤ f.a)) = _
  rw [decide_eq_true h.a0]
theorem less0 {f : Fr} (h : f.b.natAbs < 2 ^ 4000) (h' : f.a.natAbs < 2 ^ 4000) : m_less (⟨0, 1⟩ : Fr) f = .ok (decide (0 < f.a)) := by
  unfold m_less
  refine Is.guard (mulW (a := 1) (b := 4000) (by decide) h) (Is.guard (mulW (a := 4000) (b := 1) h' (by decide)) ?_)
  exact congrArg Res.ok (decide_eq_decide.mpr (by rw [Int.zero_mul, Int.mul_one]))
theorem edit3 (a b c : D) : m_is_edit (.tup [a, b, c]) = (m_is_fraction a).bind fun x28 => (if x28 = true then (asD (Tp2 Int Int) a).bind fun x35 => (m_less (⟨0, 1⟩ : (Tp2 Int Int)) x35).bind fun x38 => (if x38 = true then (m_is_moment c).bind fun x44 => (if x44 = true then (if (isNonD b) = true then guardR (okEq c (enc (⟨0, 1⟩ : (Tp2 Int Int)))) <| .ok (eqD c (enc (⟨0, 1⟩ : (Tp2 Int Int)))) else (m_is_moment b).bind fun x51 => .ok x51) else .ok false) else .ok false) else .ok false) := by
  unfold m_is_edit
  exact Is.iteT isT (Is.bind (a := [a, b, c]) rfl (Is.iteF rfl (Is.bind (a := [a, b, c]) rfl (Is.guard rfl rfl))))
theorem sz30 {i : Int} (h0 : 0 ≤ i) (h : i ≤ T30) : i.natAbs < 2 ^ 4000 := big (n := 100) (by have : T30 < 2 ^ 100 := (by decide); omega) (by decide)
theorem edit_ok {e : Ed} (h : GoodEd e) : m_is_edit (enc e) = .ok true := by
  obtain ⟨s, p, r⟩ := h
  obtain ⟨a, b, c⟩ := e
  simp only at s p r
  show m_is_edit (.tup [enc a, enc b, enc c]) = _
  rw [edit3]
  refine Is.bind (isfracF s.low) (Is.iteT rfl (Is.bind (a := a) rfl (Is.bind (less0 (sz30 (by have := s.low.1; omega) s.b1) (sz30 s.a0 s.a1)) (Is.iteT (decide_eq_true p) ?_))))
  cases b with
  | none =>
    have r : c = ⟨0, 1⟩ := r
    subst r
    have m01 : MoF (⟨0, 1⟩ : Fr) := ⟨⟨by decide, by decide⟩, by decide, by decide, by decide⟩
    exact Is.bind (ismomF m01) (Is.iteT rfl (Is.iteT rfl (Is.guard (okEq_of rfl rfl) (congrArg Res.ok (eqD_refl rfl)))))
  | some f =>
    have r : MoF f ∧ MoF c := r
    exact Is.bind (ismomF r.2) (Is.iteT rfl (Is.iteF rfl (Is.bind (ismomF r.1) rfl)))
theorem max_le {d b : Int} {l : List Int} (hl : l ≠ []) (h : ∀ x ∈ l, x ≤ b) : maxL d l ≤ b := by
  cases l with
  | nil => exact absurd rfl hl
  | cons n r =>
    obtain ⟨h1, _, _⟩ := foldmax r n
    rcases h1 with e | m
    · show r.foldl _ n ≤ b
      rw [e]; exact h n List.mem_cons_self
    · exact h _ (List.mem_cons_of_mem _ m)
theorem small_ok {e : Ed} (h : GoodEd e) : m_is_small e = .ok true := by
  obtain ⟨s, p, r⟩ := h
  obtain ⟨a, b, c⟩ := e
  simp only at s p r
  unfold m_is_small
  have h1 := s.a1
  have h2 := s.b1
  cases b with
  | none =>
    refine Is.iteT rfl (Is.bind (a := [a.a, a.b]) rfl (congrArg Res.ok (decide_eq_true (max_le (by simp) fun x m => ?_))))
    simp only [List.mem_cons, List.not_mem_nil, or_false] at m
    rcases m with rfl | rfl <;> assumption
  | some b =>
    have r : MoF b ∧ MoF c := r
    have h3 := r.1.a1
    have h4 := r.1.b1
    have h5 := r.2.a1
    have h6 := r.2.b1
    refine Is.iteF rfl (Is.bind (a := [.int a.a, .int a.b]) rfl (Is.bind (a := [.int b.a, .int b.b]) rfl (Is.guard (by show 4 ≤ 1000000; decide) ?_)))
    refine Is.bind (a := [.int a.a, .int a.b, .int b.a, .int b.b]) rfl (Is.bind (a := [.int c.a, .int c.b]) rfl (Is.guard (by show 6 ≤ 1000000; decide) ?_))
    refine Is.bind (a := [a.a, a.b, b.a, b.b, c.a, c.b]) rfl ?_
    refine congrArg Res.ok (decide_eq_true (max_le (by simp) fun x m => ?_))
    simp only [List.mem_cons, List.not_mem_nil, or_false] at m
    rcases m with rfl | rfl | rfl | rfl | rfl | rfl <;> assumption
theorem asEd (e : Ed) : asD Ed (enc e) = .ok e := by
  unfold asD
  rw [show Dec.dec (enc e) = some e from by
    obtain ⟨a, b, c⟩ := e
    cases b <;> rfl]
/-- lists of which it is known what each thing is -/
theorem edits_list {l : List D} (tE : D → Bool) (hl : l.length ≤ 1000000) (h : ∀ x ∈ l, m_is_edit x = .ok (tE x)) : m_is_edits (.lst l) = .ok (l.all tE) := by
  unfold m_is_edits
  refine Is.iteT isLi (Is.bind (a := l) rfl ?_)
  rw [compR_map (g := tE) hl (fun x m => by rw [h x m]; rfl)]
  show Res.ok ((l.map tE).all id) = _
  rw [List.all_map]
  rfl
theorem lane_list {l : List D} {tE tS : D → Bool} (h60 : l.length ≤ 60) (h : ∀ x ∈ l, m_is_edit x = .ok (tE x)) (hs : l.all tE = true → ∀ x ∈ l, ∃ e : Ed, x = enc e ∧ m_is_small e = .ok (tS x)) : m_are_lane_edits (.lst l) = .ok (l.all tE && l.all tS) := by
  unfold m_are_lane_edits
  refine Is.iteT isLi (Is.bind (a := l) rfl (Is.iteF (decide_eq_false (by omega)) (Is.bind (edits_list tE (by omega) h) ?_)))
  cases c : l.all tE with
  | false => rfl
  | true =>
    refine Is.iteT rfl (Is.bind (a := l) rfl ?_)
    rw [compR_map (g := tS) (by omega) (fun x m => by
      obtain ⟨e, rfl, q⟩ := hs c x m
      exact Is.bind (asEd e) (Is.bind q rfl))]
    show Res.ok ((l.map tS).all id) = _
    rw [List.all_map]
    rfl
theorem lane_edits_ok {l : List Ed} (h60 : l.length ≤ 60) (h : ∀ e ∈ l, GoodEd e) : m_are_lane_edits (enc l) = .ok true := by
  have q := lane_list (l := l.map enc) (tE := fun _ => true) (tS := fun _ => true) (by rw [List.length_map]; exact h60) (fun x m => by
    obtain ⟨e, me, rfl⟩ := List.mem_map.mp m
    exact edit_ok (h e me)) (fun _ x m => by
    obtain ⟨e, me, rfl⟩ := List.mem_map.mp m
    exact ⟨e, rfl, small_ok (h e me)⟩)
  refine q.trans ?_
  simp
/-- what is told of an edit that is odd -/
def Odd (x : D) : Prop := m_is_edit x = .ok false ∨ ∃ e : Ed, x = enc e ∧ m_is_edit x = .ok true ∧ m_is_small e = .ok false
open Classical in
theorem lane_edits_no {l : List Ed} {x : D} (h60 : l.length < 60) (h : ∀ e ∈ l, GoodEd e) (ho : Odd x) : m_are_lane_edits (.lst (l.map enc ++ [x])) = .ok false := by
  have len : (l.map (enc : Ed → D) ++ [x]).length ≤ 60 := by rw [List.length_append, List.length_map, List.length_singleton]; omega
  rcases ho with ho | ⟨e, rfl, h1, h2⟩
  · have q := lane_list (l := l.map enc ++ [x]) (tE := fun y => decide (m_is_edit y = .ok true)) (tS := fun _ => true) len (fun y m => by
      rcases List.mem_append.mp m with m | m
      · obtain ⟨e, me, rfl⟩ := List.mem_map.mp m
        rw [edit_ok (h e me)]
        simp
      · rw [List.mem_singleton.mp m, ho]
        simp) (fun c => by
      exfalso
      rw [List.all_append, Bool.and_eq_true] at c
      have := c.2
      rw [List.all_cons, ho] at this
      simp at this)
    rw [q, List.all_append, List.all_cons, ho]
    simp
  · have q := lane_list (l := l.map enc ++ [enc e]) (tE := fun _ => true) (tS := fun y => decide (∃ g : Ed, y = enc g ∧ m_is_small g = .ok true)) len (fun y m => by
      rcases List.mem_append.mp m with m | m
      · obtain ⟨e, me, rfl⟩ := List.mem_map.mp m
        exact edit_ok (h e me)
      · rw [List.mem_singleton.mp m]; exact h1) (fun _ y m => by
      rcases List.mem_append.mp m with m | m
      · obtain ⟨e, me, rfl⟩ := List.mem_map.mp m
        exact ⟨e, rfl, by rw [small_ok (h e me), decide_eq_true ⟨e, rfl, small_ok (h e me)⟩]⟩
      · rw [List.mem_singleton.mp m]
        refine ⟨e, rfl, ?_⟩
        rw [h2, decide_eq_false]
        rintro ⟨g, eg, hg⟩
        have : asD Ed (enc e) = asD Ed (enc g) := by rw [eg]
        rw [asEd, asEd] at this
        cases this
        rw [h2] at hg
        exact nomatch hg)
    rw [q, List.all_append, Bool.and_eq_false_iff.mpr]
    rw [List.all_append]
    refine .inr (Bool.and_eq_false_iff.mpr (.inr ?_))
    rw [List.all_cons, decide_eq_false]
    · rfl
    rintro ⟨g, eg, hg⟩
    have : asD Ed (enc e) = asD Ed (enc g) := by rw [eg]
    rw [asEd, asEd] at this
    cases this
    rw [h2] at hg
    exact nomatch hg
/-! ## lanes, heads -/
structure GoodLn (n : Ln) : Prop where
  u : 1 ≤ n.a ∧ n.a ≤ 1000000
  c : 0 ≤ n.b ∧ n.b ≤ 200
  l : n.c.length ≤ 59
  e : ∀ e ∈ n.c, GoodEd e
structure GoodH (h : Hd) : Prop where
  s : 0 ≤ h.a ∧ h.a ≤ 1000000000
  w : 1 ≤ h.b ∧ h.b ≤ 16
  l : 1 ≤ h.c.length ∧ h.c.length ≤ 8
  n : ∀ n ∈ h.c, GoodLn n
theorem wh (x : D) (lo hi' : Int) : m_is_whole x lo hi' = .ok (isWhole x lo hi') := rfl
theorem isW {n lo hi' : Int} (h : lo ≤ n ∧ n ≤ hi') : isWhole (.int n) lo hi' = true := by
  show (decide (lo ≤ n) && decide (n ≤ hi')) = true
  rw [decide_eq_true h.1, decide_eq_true h.2]
  rfl
theorem lane3 (a b c : D) : m_is_head_lane (.tup [a, b, c]) = (if isWhole a 1 1000000 = true then (if isWhole b 0 200 = true then (m_are_lane_edits c).bind fun x53 => .ok x53 else .ok false) else .ok false) := by
  unfold m_is_head_lane
  exact Is.iteT isT rfl
theorem lane_ok {n : Ln} (h : GoodLn n) : m_is_head_lane (enc n) = .ok true := by
  show m_is_head_lane (.tup [.int n.a, .int n.b, enc n.c]) = _
  rw [lane3, isW h.u, isW h.c]
  exact Is.iteT rfl (Is.iteT rfl (Is.bind (lane_edits_ok (by have := h.l; omega) h.e) rfl))
theorem head3 (a b c : D) : m_is_head (.tup [a, b, c]) = (if isWhole a 0 1000000000 = true then (if isWhole b 1 16 = true then (if (isA "list" c) = true then (asL c).bind fun l64 => (if (decide (1 ≤ (l64.length : Int))) = true then (if (decide ((l64.length : Int) ≤ 8)) = true then (asL c).bind fun l82 => (compR (l82) (() : Unit) (fun x92 (a96 : Unit) => (m_is_head_lane x92).bind fun x108 => .ok (some x108, ()))).bind <| un2 fun acc95 a96 => .ok (acc95.all id) else .ok false) else .ok false) else .ok false) else .ok false) else .ok false) := by
  unfold m_is_head
  exact Is.iteT isT rfl
theorem head_ok {h : Hd} (g : GoodH h) : m_is_head (enc h) = .ok true := by
  show m_is_head (.tup [.int h.a, .int h.b, .lst (h.c.map enc)]) = _
  rw [head3, isW g.s, isW g.w]
  have gl := g.l
  refine Is.iteT rfl (Is.iteT rfl (Is.iteT isLi (Is.bind (a := h.c.map enc) rfl (Is.iteT (by rw [List.length_map]; exact decide_eq_true (by omega)) (Is.iteT (by rw [List.length_map]; exact decide_eq_true (by omega)) (Is.bind (a := h.c.map enc) rfl ?_))))))
  rw [compR_map (g := fun _ => true) (by rw [List.length_map]; omega) (fun x m => by
    obtain ⟨n, mn, rfl⟩ := List.mem_map.mp m
    rw [lane_ok (g.n n mn)]
    rfl)]
  show Res.ok (((h.c.map (enc : Ln → D)).map fun _ => true).all id) = _
  simp
/-! ## the numbers of a head -/
def edI (e : Ed) : List Int := match e.b with
  | none => [e.a.a, e.a.b, 0]
  | some f => [e.a.a, e.a.b, 1, f.a, f.b, e.c.a, e.c.b]
def lnI (n : Ln) : List Int := [n.a, n.b, (n.c.length : Int)] ++ n.c.flatMap edI
def hdI (h : Hd) : List Int := [h.a, h.b, (h.c.length : Int)] ++ h.c.flatMap lnI
theorem edI_len (e : Ed) : (edI e).length ≤ 7 ∧ 3 ≤ (edI e).length := by
  unfold edI
  cases e.b
  · exact ⟨by show 3 ≤ 7; decide, Nat.le_refl 3⟩
  · exact ⟨Nat.le_refl 7, by show 3 ≤ 7; decide⟩
theorem flat_le {α : Type} {f : α → List Int} {k : Nat} : ∀ {l : List α}, (∀ x ∈ l, (f x).length ≤ k) → (l.flatMap f).length ≤ k * l.length
  | [], _ => Nat.zero_le _
  | x :: l, h => by
    rw [List.flatMap_cons, List.length_append, List.length_cons, Nat.mul_succ]
    have := h x List.mem_cons_self
    have := flat_le (f := f) (k := k) (l := l) fun y m => h y (List.mem_cons_of_mem _ m)
    omega
theorem lnI_len {n : Ln} (h : n.c.length ≤ 59) : (lnI n).length ≤ 420 := by
  unfold lnI
  have := flat_le (f := edI) (k := 7) (l := n.c) fun e _ => (edI_len e).1
  rw [List.length_append]
  show 3 + _ ≤ _
  omega
theorem hdI_len {h : Hd} (g : GoodH h) : (hdI h).length ≤ 3400 := by
  unfold hdI
  have := flat_le (f := lnI) (k := 420) (l := h.c) fun n m => lnI_len (g.n n m).l
  have := g.l
  rw [List.length_append]
  show 3 + _ ≤ _
  omega
theorem t30 : (1000000000 : Int) ≤ T30 := by decide
theorem nm30 {n : Int} (h0 : 0 ≤ n) (h : n ≤ T30) : Nm 14 n := ⟨h0, by have : T30 ≤ GRT := (by decide); omega, by have : n ≤ 10 ^ 30 := h; have : n.toNat ≤ 10 ^ 30 := (by omega); exact Nat.lt_of_le_of_lt this (by decide)⟩
theorem ed_nm {e : Ed} (h : GoodEd e) : ∀ n ∈ edI e, 0 ≤ n ∧ n ≤ T30 := by
  obtain ⟨s, p, r⟩ := h
  obtain ⟨a, b, c⟩ := e
  simp only at s p r
  have h1 := s.a1
  have h2 := s.b1
  have h3 := s.low.1
  intro n m
  unfold edI at m
  cases b with
  | none =>
    simp only [List.mem_cons, List.not_mem_nil, or_false] at m
    rcases m with rfl | rfl | rfl <;> omega
  | some b =>
    have r : MoF b ∧ MoF c := r
    have h4 := r.1.a1
    have h5 := r.1.b1
    have h6 := r.1.low.1
    have h7 := r.2.a1
    have h8 := r.2.b1
    have h9 := r.2.low.1
    have h10 := r.1.a0
    have h11 := r.2.a0
    simp only [List.mem_cons, List.not_mem_nil, or_false] at m
    rcases m with rfl | rfl | rfl | rfl | rfl | rfl | rfl <;> omega
theorem ln_nm {n : Ln} (h : GoodLn n) : ∀ i ∈ lnI n, 0 ≤ i ∧ i ≤ T30 := by
  intro i m
  have := t30
  have := h.u
  have := h.c
  have := h.l
  rcases List.mem_append.mp m with m | m
  · simp only [List.mem_cons, List.not_mem_nil, or_false] at m
    rcases m with rfl | rfl | rfl <;> omega
  · obtain ⟨e, me, hi⟩ := List.mem_flatMap.mp m
    exact ed_nm (h.e e me) i hi
theorem hd_nm {h : Hd} (g : GoodH h) : ∀ i ∈ hdI h, Nm 14 i := by
  intro i m
  have := t30
  have := g.s
  have := g.w
  have := g.l
  rcases List.mem_append.mp m with m | m
  · simp only [List.mem_cons, List.not_mem_nil, or_false] at m
    rcases m with rfl | rfl | rfl <;> exact nm30 (by omega) (by omega)
  · obtain ⟨n, mn, hi⟩ := List.mem_flatMap.mp m
    have := ln_nm (g.n n mn) i hi
    exact nm30 this.1 this.2
theorem hd_len {h : Hd} (g : GoodH h) : (wrs (hdI h)).length ≤ 51000 := by
  have := wrs_len (hd_nm g)
  have := hdI_len g
  omega
theorem forR_flat {α : Type} {R : Type} (M : Nat) {w : α → List Int} {k : Nat} {f : α → List Int → Res (Fl (List Int) R)} (hf : ∀ x acc, acc.length + k ≤ M → (w x).length ≤ k → f x acc = .ok (.nx (acc ++ w x))) : ∀ (l : List α) (acc : List Int), (∀ x ∈ l, (w x).length ≤ k) → acc.length + k * l.length ≤ M → forR l acc f = .ok (.nx (acc ++ l.flatMap w))
  | [], acc, _, _ => by rw [List.flatMap_nil, List.append_nil]; rfl
  | x :: l, acc, h, hl => by
    rw [List.length_cons, Nat.mul_succ] at hl
    have hx := h x List.mem_cons_self
    show Res.bind (f x acc) _ = _
    rw [hf x acc (by omega) hx]
    show forR l (acc ++ w x) f = _
    rw [forR_flat M hf l _ (fun y m => h y (List.mem_cons_of_mem _ m)) (by rw [List.length_append]; omega), List.flatMap_cons, List.append_assoc]
theorem ed_l (e : Ed) : l_edit_numbers e = .ok (edI e) := by
  obtain ⟨a, b, c⟩ := e
  cases b <;> rfl
theorem ed_m (e : Ed) : m_edit_numbers (enc e) = .ok (edI e) := by
  obtain ⟨a, b, c⟩ := e
  cases b <;> rfl
theorem edits_many {n : Ln} (h : (lnI n).length ≤ 420) : n.c.length ≤ 420 := by
  have q : ∀ l : List Ed, l.length ≤ (l.flatMap edI).length := fun l => by
    induction l with
    | nil => exact Nat.le_refl _
    | cons e l ih =>
      rw [List.flatMap_cons, List.length_append, List.length_cons]
      have := (edI_len e).2
      omega
  have := q n.c
  unfold lnI at h
  rw [List.length_append] at h
  omega
theorem numbers_l {h : Hd} (g : GoodH h) : l_head_numbers h = .ok (hdI h) := by
  unfold l_head_numbers
  have gl := g.l
  refine Is.bind (forR_flat 10000 (w := lnI) (k := 420) (fun n acc ha hw => ?_) h.c _ (fun n m => lnI_len (g.n n m).l) (by show 3 + _ ≤ _; omega)) rfl
  have hn := edits_many hw
  refine Is.guard (by show _ + 3 ≤ _; omega) (Is.bind (forR_flat 900000 (w := edI) (k := 7) (fun e acc ha hw => ?_) n.c _ (fun e _ => (edI_len e).1) (by rw [List.length_append]; show _ + 3 + _ ≤ _; omega)) ?_)
  · exact Is.bind (ed_l e) (Is.guard (by omega) rfl)
  · show Res.ok (Fl.nx ((acc ++ [n.a, n.b, (n.c.length : Int)]) ++ n.c.flatMap edI)) = _
    rw [List.append_assoc]
    rfl
theorem flat_map {α β : Type} {g : α → β} {f : β → List Int} (l : List α) : (l.map g).flatMap f = l.flatMap fun x => f (g x) := List.flatMap_map ..
theorem forR_map {α β S R : Type} {g : α → β} {f : β → S → Res (Fl S R)} : ∀ (l : List α) (s : S), forR (l.map g) s f = forR l s fun x => f (g x)
  | [], s => rfl
  | x :: l, s => by
    show Res.bind (f (g x) s) _ = Res.bind (f (g x) s) _
    congr 1
    funext r
    cases r with
    | nx s' => exact forR_map l s'
    | rt r => rfl
    | bk s' => rfl
theorem body_m {h : Hd} (g : GoodH h) : m_head_body (enc h) = .ok (wrs (hdI h)) := by
  unfold m_head_body
  have gl := g.l
  have ll : (h.c.map (enc : Ln → D)).length = h.c.length := List.length_map ..
  refine Is.bind (a := true) (by rw [head_ok g]; rfl) (Is.iteT rfl ?_)
  refine Is.bind (a := [.int h.a, .int h.b, .lst (h.c.map enc)]) rfl (Is.guard rfl (Is.bind (a := .int h.a) rfl (Is.bind (a := .int h.b) rfl (Is.bind (a := .lst (h.c.map enc)) rfl (Is.bind (a := h.c.map enc) rfl (Is.bind (a := h.a) rfl (Is.bind (a := h.b) rfl (Is.bind (a := h.c.map enc) rfl ?_))))))))
  rw [ll, forR_map]
  refine Is.bind (forR_flat 10000 (w := lnI) (k := 420) (fun n acc ha hw => ?_) h.c _ (fun n m => lnI_len (g.n n m).l) (by show 3 + _ ≤ _; omega)) ?_
  · have hn := edits_many hw
    have ln : (n.c.map (enc : Ed → D)).length = n.c.length := List.length_map ..
    refine Is.bind (a := [.int n.a, .int n.b, .lst (n.c.map enc)]) rfl (Is.guard rfl (Is.bind (a := .int n.a) rfl (Is.bind (a := .int n.b) rfl (Is.bind (a := .lst (n.c.map enc)) rfl (Is.bind (a := n.c.map enc) rfl (Is.bind (a := n.a) rfl (Is.bind (a := n.b) rfl ?_)))))))
    refine Is.guard (by show _ + 3 ≤ _; omega) (Is.bind (a := n.c.map enc) rfl ?_)
    rw [ln, forR_map]
    refine Is.bind (forR_flat 900000 (w := edI) (k := 7) (fun e acc ha hw => ?_) n.c _ (fun e _ => (edI_len e).1) (by rw [List.length_append]; show _ + 3 + _ ≤ _; omega)) ?_
    · exact Is.bind (a := edI e) (by rw [ed_m]; rfl) (Is.guard (by omega) rfl)
    · show Res.ok (Fl.nx ((acc ++ [n.a, n.b, (n.c.length : Int)]) ++ n.c.flatMap edI)) = _
      rw [List.append_assoc]
      rfl
  · show Res.bind (m_all_written (hdI h)).noErr _ = _
    rw [all_m (hd_nm g) (by have := hdI_len g; omega)]
    rfl
theorem body_no {d : D} (h : m_is_head d = .ok false) : m_head_body d = .err ⟨"NoBody", []⟩ := by
  unfold m_head_body
  rw [h]
  rfl
/-! ## a head that is read -/
theorem grt : T30 ≤ GRT := by decide
theorem app3 (a b c : List Int) : (a ++ b) ++ c = a ++ (b ++ c) := List.append_assoc ..
theorem pair_rds {f : Fr} (h : MoF f) : Rds m_Numbers__pair (fun f : Fr => wrs [f.a, f.b]) (fun f => f) f := fun pre s hz => by
  have := grt
  have g6 : GRT = 1000000000000000000000000000000000000000000000000000000000000 := rfl
  have h0 := h.a0
  have h1 := h.a1
  have h2 := h.b1
  have h3 := h.low.1
  have e : wrs [f.a, f.b] = wrs [f.a] ++ wrs [f.b] := wrs_app [f.a] [f.b]
  simp only [e] at hz ⊢
  unfold m_Numbers__pair
  refine Is.bind (Rds.use (rds1 (n := f.a) h0 (by omega) h0 (by omega)) (pre := pre) (s := wrs [f.b] ++ s) (by rw [app3]) rfl hz) ?_
  refine Is.bind (Rds.use (rds1 (n := f.b) (by omega) (by omega) (by omega) (by omega)) (pre := pre ++ wrs [f.a]) (s := s) (by rw [app3, app3]) (by rw [List.length_append]) hz) ?_
  show Res.ok (f, rdr _ _) = _
  rw [List.length_append, Nat.add_assoc]
theorem pair_cut {f : Fr} (h : MoF f) : Cut m_Numbers__pair (cutB [f.a, f.b]) := fun pre hz => by
  have := grt
  have g6 : GRT = 1000000000000000000000000000000000000000000000000000000000000 := rfl
  have h0 := h.a0
  have h1 := h.a1
  have h2 := h.b1
  have h3 := h.low.1
  have e : cutB [f.a, f.b] = wrs [f.a] ++ cutB [f.b] := cutB_app (ms := [f.a]) (ns := [f.b]) wrs_ne
  simp only [e] at hz ⊢
  unfold m_Numbers__pair
  refine Is.bind (Rds.use (rds1 (n := f.a) h0 (by omega) h0 (by omega)) (pre := pre) (s := cutB [f.b]) rfl rfl hz) ?_
  exact Is.bindX (Cut.use (cut1 (n := f.b) (by omega) (by omega)) (pre := pre ++ wrs [f.a]) (by rw [app3]) (by rw [List.length_append]) hz)
theorem edit_rds {e : Ed} (h : GoodEd e) : Rds m_edit_in (fun e : Ed => wrs (edI e)) (fun e => e) e := fun pre s hz => by
  obtain ⟨hs, p, r⟩ := h
  obtain ⟨a, b, c⟩ := e
  simp only at hs p r
  unfold m_edit_in
  cases b with
  | none =>
    have r : c = ⟨0, 1⟩ := r
    subst r
    have e : wrs (edI ⟨a, none, ⟨0, 1⟩⟩) = wrs [a.a, a.b] ++ wrs [0] := wrs_app [a.a, a.b] [0]
    simp only [e] at hz ⊢
    refine Is.bind (Rds.use (pair_rds hs) (pre := pre) (s := wrs [0] ++ s) (by rw [app3]) rfl hz) ?_
    refine Is.bind (Rds.use (rds1 (n := 0) (by decide) (by decide) (by decide) (by decide)) (pre := pre ++ wrs [a.a, a.b]) (s := s) (by rw [app3, app3]) (by rw [List.length_append]) hz) ?_
    refine Is.iteT rfl ?_
    show Res.ok (_, rdr _ _) = _
    rw [List.length_append, Nat.add_assoc]
  | some f =>
    have r : MoF f ∧ MoF c := r
    have e : wrs (edI ⟨a, some f, c⟩) = wrs [a.a, a.b] ++ (wrs [1] ++ (wrs [f.a, f.b] ++ wrs [c.a, c.b])) := (wrs_app [a.a, a.b] [1, f.a, f.b, c.a, c.b]).trans (congrArg _ ((wrs_app [1] [f.a, f.b, c.a, c.b]).trans (congrArg _ (wrs_app [f.a, f.b] [c.a, c.b]))))
    simp only [e] at hz ⊢
    refine Is.bind (Rds.use (pair_rds hs) (pre := pre) (s := wrs [1] ++ (wrs [f.a, f.b] ++ (wrs [c.a, c.b] ++ s))) (by simp only [app3]) rfl hz) ?_
    refine Is.bind (Rds.use (rds1 (n := 1) (by decide) (by decide) (by decide) (by decide)) (pre := pre ++ wrs [a.a, a.b]) (s := wrs [f.a, f.b] ++ (wrs [c.a, c.b] ++ s)) (by simp only [app3]) (by rw [List.length_append]) hz) ?_
    refine Is.iteF rfl ?_
    refine Is.bind (Rds.use (pair_rds r.1) (pre := pre ++ wrs [a.a, a.b] ++ wrs [1]) (s := wrs [c.a, c.b] ++ s) (by simp only [app3]) (by simp only [List.length_append]) hz) ?_
    refine Is.bind (Rds.use (pair_rds r.2) (pre := pre ++ wrs [a.a, a.b] ++ wrs [1] ++ wrs [f.a, f.b]) (s := s) (by simp only [app3]) (by simp only [List.length_append]) hz) ?_
    show Res.ok (_, rdr _ _) = _
    simp only [List.length_append, Nat.add_assoc]
theorem edit_cut {e : Ed} (h : GoodEd e) : Cut m_edit_in (cutB (edI e)) := fun pre hz => by
  obtain ⟨hs, p, r⟩ := h
  obtain ⟨a, b, c⟩ := e
  simp only at hs p r
  unfold m_edit_in
  cases b with
  | none =>
    have e : cutB (edI ⟨a, none, c⟩) = wrs [a.a, a.b] ++ cutB [0] := cutB_app (ms := [a.a, a.b]) (ns := [0]) wrs_ne
    simp only [e] at hz ⊢
    refine Is.bind (Rds.use (pair_rds hs) (pre := pre) (s := cutB [0]) rfl rfl hz) ?_
    exact Is.bindX (Cut.use (cut1 (n := 0) (by decide) (by decide)) (pre := pre ++ wrs [a.a, a.b]) (by rw [app3]) (by rw [List.length_append]) hz)
  | some f =>
    have r : MoF f ∧ MoF c := r
    have e : cutB (edI ⟨a, some f, c⟩) = wrs [a.a, a.b] ++ (wrs [1] ++ (wrs [f.a, f.b] ++ cutB [c.a, c.b])) := (cutB_app (ms := [a.a, a.b]) (ns := [1, f.a, f.b, c.a, c.b]) wrs_ne).trans (congrArg _ ((cutB_app (ms := [1]) (ns := [f.a, f.b, c.a, c.b]) wrs_ne).trans (congrArg _ (cutB_app (ms := [f.a, f.b]) (ns := [c.a, c.b]) wrs_ne))))
    simp only [e] at hz ⊢
    refine Is.bind (Rds.use (pair_rds hs) (pre := pre) (s := wrs [1] ++ (wrs [f.a, f.b] ++ cutB [c.a, c.b])) (by simp only [app3]) rfl hz) ?_
    refine Is.bind (Rds.use (rds1 (n := 1) (by decide) (by decide) (by decide) (by decide)) (pre := pre ++ wrs [a.a, a.b]) (s := wrs [f.a, f.b] ++ cutB [c.a, c.b]) (by simp only [app3]) (by rw [List.length_append]) hz) ?_
    refine Is.iteF rfl ?_
    refine Is.bind (Rds.use (pair_rds r.1) (pre := pre ++ wrs [a.a, a.b] ++ wrs [1]) (s := cutB [c.a, c.b]) (by simp only [app3]) (by simp only [List.length_append]) hz) ?_
    exact Is.bindX (Cut.use (pair_cut r.2) (pre := pre ++ wrs [a.a, a.b] ++ wrs [1] ++ wrs [f.a, f.b]) (by simp only [app3]) (by simp only [List.length_append]) hz)
theorem wrs_flat {α : Type} {f : α → List Int} (l : List α) : wrs (l.flatMap f) = l.flatMap fun x => wrs (f x) := by
  unfold wrs
  rw [List.flatMap_assoc]
theorem edits_no (l : List Ed) : noLs (l.map enc) = true := by
  induction l with
  | nil => rfl
  | cons e l ih =>
    show (noL (enc e) && noLs (l.map enc)) = true
    rw [ih, show noL (enc e : D) = true from by
      obtain ⟨a, b, c⟩ := e
      cases b <;> rfl]
    rfl
theorem rng_len (n : Nat) : (rngI 0 (n : Int)).length = n := by unfold rngI; simp
theorem lane_rds {n : Ln} (h : GoodLn n) : Rds m_lane_in (fun n : Ln => wrs (lnI n)) (fun n => n) n := fun pre s hz => by
  have := grt
  have := t30
  have hu := h.u
  have hc := h.c
  have hl := h.l
  have e : wrs (lnI n) = wrs [n.a] ++ (wrs [n.b] ++ (wrs [(n.c.length : Int)] ++ n.c.flatMap fun e => wrs (edI e))) := by
    unfold lnI
    rw [← wrs_flat, ← wrs_app, ← wrs_app, ← wrs_app]
    rfl
  simp only [e] at hz ⊢
  unfold m_lane_in
  refine Is.bind (Rds.use (rds1 (n := n.a) (by omega) (by omega) hu.1 hu.2) (pre := pre) (s := wrs [n.b] ++ (wrs [(n.c.length : Int)] ++ ((n.c.flatMap fun e => wrs (edI e)) ++ s))) (by simp only [app3]) rfl hz) ?_
  refine Is.bind (Rds.use (rds1 (n := n.b) (by omega) (by omega) hc.1 hc.2) (pre := pre ++ wrs [n.a]) (s := wrs [(n.c.length : Int)] ++ ((n.c.flatMap fun e => wrs (edI e)) ++ s)) (by simp only [app3]) (by rw [List.length_append]) hz) ?_
  refine Is.bind (Rds.use (rds1 (n := (n.c.length : Int)) (by omega) (by omega) (by omega) (by omega)) (pre := pre ++ wrs [n.a] ++ wrs [n.b]) (s := (n.c.flatMap fun e => wrs (edI e)) ++ s) (by simp only [app3]) (by simp only [List.length_append]) hz) ?_
  refine Is.guard (by show -(2 ^ 62) ≤ (n.c.length : Int); omega) ?_
  have e2 : pre ++ ((wrs [n.a] ++ (wrs [n.b] ++ (wrs [(n.c.length : Int)] ++ n.c.flatMap fun e => wrs (edI e)))) ++ s) = (pre ++ wrs [n.a] ++ wrs [n.b] ++ wrs [(n.c.length : Int)]) ++ ((n.c.flatMap fun e => wrs (edI e)) ++ s) := by simp only [app3]
  rw [e2] at hz ⊢
  have r := compL_rds (f := m_edit_in) (w := fun e : Ed => wrs (edI e)) (v := fun e => e) n.c (rngI 0 (n.c.length : Int)) (pre ++ wrs [n.a] ++ wrs [n.b] ++ wrs [(n.c.length : Int)]) s (rng_len _) (fun e m => edit_rds (h.e e m)) hz
  refine Is.bind (Is.guard (by rw [rng_len]; omega) (by simp only [List.length_append] at r ⊢; exact r)) ?_
  rw [List.map_id']
  show guardR _ _ = _
  refine Is.guard (edits_no n.c) ?_
  show Res.ok (n, rdr _ _) = _
  simp only [List.length_append, Nat.add_assoc]
theorem lane_cut {n : Ln} (h : GoodLn n) : Cut m_lane_in (cutB (lnI n)) := fun pre hz => by
  have := grt
  have := t30
  have hu := h.u
  have hc := h.c
  have hl := h.l
  unfold m_lane_in
  rcases List.eq_nil_or_concat n.c with hn | ⟨init, e, hn⟩
  · have e : cutB (lnI n) = wrs [n.a] ++ (wrs [n.b] ++ cutB [0]) := by
      unfold lnI
      rw [hn]
      exact (cutB_app (ms := [n.a]) (ns := [n.b, 0]) wrs_ne).trans (congrArg _ (cutB_app (ms := [n.b]) (ns := [0]) wrs_ne))
    simp only [e] at hz ⊢
    refine Is.bind (Rds.use (rds1 (n := n.a) (by omega) (by omega) hu.1 hu.2) (pre := pre) (s := wrs [n.b] ++ cutB [0]) (by simp only [app3]) rfl hz) ?_
    refine Is.bind (Rds.use (rds1 (n := n.b) (by omega) (by omega) hc.1 hc.2) (pre := pre ++ wrs [n.a]) (s := cutB [0]) (by simp only [app3]) (by rw [List.length_append]) hz) ?_
    exact Is.bindX (Cut.use (cut1 (n := 0) (by decide) (by decide)) (pre := pre ++ wrs [n.a] ++ wrs [n.b]) (by simp only [app3]) (by simp only [List.length_append]) hz)
  · rw [List.concat_eq_append] at hn
    have he := h.e e (by rw [hn]; simp)
    have pe : 0 < (wrs (edI e)).length := by
      obtain ⟨a, b, c⟩ := e
      cases b <;> exact wrs_ne
    have e1 : cutB (lnI n) = wrs [n.a] ++ (wrs [n.b] ++ (wrs [(n.c.length : Int)] ++ ((init.flatMap fun e => wrs (edI e)) ++ cutB (edI e)))) := by
      unfold lnI
      have q : n.c.flatMap edI = init.flatMap edI ++ edI e := by rw [hn, List.flatMap_append, List.flatMap_cons, List.flatMap_nil, List.append_nil]
      rw [q, ← app3, cutB_app pe, wrs_app, wrs_flat]
      show (wrs ([n.a] ++ ([n.b] ++ [(n.c.length : Int)])) ++ _) ++ _ = _
      rw [wrs_app, wrs_app]
      simp only [app3]
    simp only [e1] at hz ⊢
    refine Is.bind (Rds.use (rds1 (n := n.a) (by omega) (by omega) hu.1 hu.2) (pre := pre) (s := wrs [n.b] ++ (wrs [(n.c.length : Int)] ++ ((init.flatMap fun e => wrs (edI e)) ++ cutB (edI e)))) (by simp only [app3]) rfl hz) ?_
    refine Is.bind (Rds.use (rds1 (n := n.b) (by omega) (by omega) hc.1 hc.2) (pre := pre ++ wrs [n.a]) (s := wrs [(n.c.length : Int)] ++ ((init.flatMap fun e => wrs (edI e)) ++ cutB (edI e))) (by simp only [app3]) (by rw [List.length_append]) hz) ?_
    refine Is.bind (Rds.use (rds1 (n := (n.c.length : Int)) (by omega) (by omega) (by omega) (by omega)) (pre := pre ++ wrs [n.a] ++ wrs [n.b]) (s := (init.flatMap fun e => wrs (edI e)) ++ cutB (edI e)) (by simp only [app3]) (by simp only [List.length_append]) hz) ?_
    refine Is.guard (by show -(2 ^ 62) ≤ (n.c.length : Int); omega) ?_
    have e2 : pre ++ (wrs [n.a] ++ (wrs [n.b] ++ (wrs [(n.c.length : Int)] ++ ((init.flatMap fun e => wrs (edI e)) ++ cutB (edI e))))) = (pre ++ wrs [n.a] ++ wrs [n.b] ++ wrs [(n.c.length : Int)]) ++ ((init.flatMap fun e => wrs (edI e)) ++ cutB (edI e)) := by simp only [app3]
    rw [e2] at hz ⊢
    have r := compL_cut (f := m_edit_in) (w := fun e : Ed => wrs (edI e)) (v := fun e => e) (edit_cut he) init (rngI 0 (n.c.length : Int)) (pre ++ wrs [n.a] ++ wrs [n.b] ++ wrs [(n.c.length : Int)]) (by rw [rng_len, hn, List.length_append, List.length_singleton]; omega) (fun e m => edit_rds (h.e e (by rw [hn]; simp [m]))) hz
    exact Is.bindX (Is.guard (by rw [rng_len]; omega) (by simp only [List.length_append] at r ⊢; exact r))
theorem head_rds {h : Hd} (g : GoodH h) : Rds m_head_in (fun h : Hd => wrs (hdI h)) (fun h => h) h := fun pre s hz => by
  have := grt
  have := t30
  have gs := g.s
  have gw := g.w
  have gl := g.l
  have e : wrs (hdI h) = wrs [h.a] ++ (wrs [h.b] ++ (wrs [(h.c.length : Int)] ++ h.c.flatMap fun n => wrs (lnI n))) := by
    unfold hdI
    rw [← wrs_flat, ← wrs_app, ← wrs_app, ← wrs_app]
    rfl
  simp only [e] at hz ⊢
  unfold m_head_in
  refine Is.bind (Rds.use (rds1 (n := h.a) (by omega) (by omega) gs.1 gs.2) (pre := pre) (s := wrs [h.b] ++ (wrs [(h.c.length : Int)] ++ ((h.c.flatMap fun n => wrs (lnI n)) ++ s))) (by simp only [app3]) rfl hz) ?_
  refine Is.bind (Rds.use (rds1 (n := h.b) (by omega) (by omega) gw.1 gw.2) (pre := pre ++ wrs [h.a]) (s := wrs [(h.c.length : Int)] ++ ((h.c.flatMap fun n => wrs (lnI n)) ++ s)) (by simp only [app3]) (by rw [List.length_append]) hz) ?_
  refine Is.bind (Rds.use (rds1 (n := (h.c.length : Int)) (by omega) (by omega) (by omega) (by omega)) (pre := pre ++ wrs [h.a] ++ wrs [h.b]) (s := (h.c.flatMap fun n => wrs (lnI n)) ++ s) (by simp only [app3]) (by simp only [List.length_append]) hz) ?_
  refine Is.guard (by show -(2 ^ 62) ≤ (h.c.length : Int); omega) ?_
  have e2 : pre ++ ((wrs [h.a] ++ (wrs [h.b] ++ (wrs [(h.c.length : Int)] ++ h.c.flatMap fun n => wrs (lnI n)))) ++ s) = (pre ++ wrs [h.a] ++ wrs [h.b] ++ wrs [(h.c.length : Int)]) ++ ((h.c.flatMap fun n => wrs (lnI n)) ++ s) := by simp only [app3]
  rw [e2] at hz ⊢
  have r := compL_rds (f := m_lane_in) (w := fun n : Ln => wrs (lnI n)) (v := fun n => n) h.c (rngI 0 (h.c.length : Int)) (pre ++ wrs [h.a] ++ wrs [h.b] ++ wrs [(h.c.length : Int)]) s (rng_len _) (fun n m => lane_rds (g.n n m)) hz
  refine Is.bind (Is.guard (by rw [rng_len]; omega) (by simp only [List.length_append] at r ⊢; exact r)) ?_
  rw [List.map_id']
  show Res.ok (h, rdr _ _) = _
  simp only [List.length_append, Nat.add_assoc]
theorem head_cut {h : Hd} (g : GoodH h) : Cut m_head_in (cutB (hdI h)) := fun pre hz => by
  have := grt
  have := t30
  have gs := g.s
  have gw := g.w
  have gl := g.l
  unfold m_head_in
  rcases List.eq_nil_or_concat h.c with hn | ⟨init, n, hn⟩
  · rw [hn] at gl
    exact absurd gl.1 (by decide)
  · rw [List.concat_eq_append] at hn
    have he := g.n n (by rw [hn]; simp)
    have pe : 0 < (wrs (lnI n)).length := wrs_ne
    have e1 : cutB (hdI h) = wrs [h.a] ++ (wrs [h.b] ++ (wrs [(h.c.length : Int)] ++ ((init.flatMap fun n => wrs (lnI n)) ++ cutB (lnI n)))) := by
      unfold hdI
      have q : h.c.flatMap lnI = init.flatMap lnI ++ lnI n := by rw [hn, List.flatMap_append, List.flatMap_cons, List.flatMap_nil, List.append_nil]
      rw [q, ← app3, cutB_app pe, wrs_app, wrs_flat]
      show (wrs ([h.a] ++ ([h.b] ++ [(h.c.length : Int)])) ++ _) ++ _ = _
      rw [wrs_app, wrs_app]
      simp only [app3]
    simp only [e1] at hz ⊢
    refine Is.bind (Rds.use (rds1 (n := h.a) (by omega) (by omega) gs.1 gs.2) (pre := pre) (s := wrs [h.b] ++ (wrs [(h.c.length : Int)] ++ ((init.flatMap fun n => wrs (lnI n)) ++ cutB (lnI n)))) (by simp only [app3]) rfl hz) ?_
    refine Is.bind (Rds.use (rds1 (n := h.b) (by omega) (by omega) gw.1 gw.2) (pre := pre ++ wrs [h.a]) (s := wrs [(h.c.length : Int)] ++ ((init.flatMap fun n => wrs (lnI n)) ++ cutB (lnI n))) (by simp only [app3]) (by rw [List.length_append]) hz) ?_
    refine Is.bind (Rds.use (rds1 (n := (h.c.length : Int)) (by omega) (by omega) (by omega) (by omega)) (pre := pre ++ wrs [h.a] ++ wrs [h.b]) (s := (init.flatMap fun n => wrs (lnI n)) ++ cutB (lnI n)) (by simp only [app3]) (by simp only [List.length_append]) hz) ?_
    refine Is.guard (by show -(2 ^ 62) ≤ (h.c.length : Int); omega) ?_
    have e2 : pre ++ (wrs [h.a] ++ (wrs [h.b] ++ (wrs [(h.c.length : Int)] ++ ((init.flatMap fun n => wrs (lnI n)) ++ cutB (lnI n))))) = (pre ++ wrs [h.a] ++ wrs [h.b] ++ wrs [(h.c.length : Int)]) ++ ((init.flatMap fun n => wrs (lnI n)) ++ cutB (lnI n)) := by simp only [app3]
    rw [e2] at hz ⊢
    have r := compL_cut (f := m_lane_in) (w := fun n : Ln => wrs (lnI n)) (v := fun n => n) (lane_cut he) init (rngI 0 (h.c.length : Int)) (pre ++ wrs [h.a] ++ wrs [h.b] ++ wrs [(h.c.length : Int)]) (by rw [rng_len, hn, List.length_append, List.length_singleton]; omega) (fun x m => lane_rds (g.n x (by rw [hn]; simp [m]))) hz
    exact Is.bindX (Is.guard (by rw [rng_len]; omega) (by simp only [List.length_append] at r ⊢; exact r))
/-! ## the reader and the body -/
theorem is_bytes_row {l : List Int} (hl : l.length ≤ 1000000) (h : ∀ b ∈ l, Byt b) : m_is_bytes (enc l) = .ok true := by rw [is_bytes_ok (small_ints hl), bytes_ints h]
theorem read_m {h : Hd} (g : GoodH h) : m_read_head (enc (wrs (hdI h))) = .ok h := by
  have hl := hd_len g
  unfold m_read_head m_read_as__head_in__head_body
  have e := head_rds g [] [] (by rw [List.append_nil, List.nil_append]; show (wrs (hdI h)).length ≤ _; omega)
  simp only [List.append_nil, List.nil_append] at e
  refine Is.bind (Is.bind (a := true) (by rw [is_bytes_row (by omega) wrs_byt]; rfl) (Is.iteT rfl (Is.bind (asD_row _) (Is.bind e (Is.bind (body_m g) (Is.guard (ok_rows _ _) (Is.iteF (by rw [eq_row]; rfl) rfl))))))) rfl
theorem read_more {h : Hd} (g : GoodH h) : m_read_head (enc (wrs (hdI h) ++ [0])) = .err ⟨"NoBody", []⟩ := by
  have hl := hd_len g
  unfold m_read_head m_read_as__head_in__head_body
  have hl2 : (wrs (hdI h) ++ [0]).length ≤ 900000 := by rw [List.length_append, List.length_singleton]; omega
  have e := head_rds g [] [0] hl2
  rw [List.nil_append] at e
  refine Is.bindX (Is.bind (a := true) (by rw [is_bytes_row (by omega) (byt_app wrs_byt fun b m => by rw [List.mem_singleton.mp m]; exact ⟨by decide, by decide⟩)]; rfl) (Is.iteT rfl (Is.bind (asD_row _) (Is.bind e (Is.bind (body_m g) (Is.guard (ok_rows _ _) (Is.iteT (by rw [row_more]; rfl) rfl)))))))
theorem read_less {h : Hd} (g : GoodH h) : m_read_head (enc (cutB (hdI h))) = .err ⟨"NoBody", []⟩ := by
  have hl := hd_len g
  unfold m_read_head m_read_as__head_in__head_body
  have cl : (cutB (hdI h)).length ≤ 900000 := by unfold cutB; rw [List.length_take]; omega
  have e := head_cut g [] (by rw [List.nil_append]; exact cl)
  rw [List.nil_append] at e
  exact Is.bindX (Is.bind (a := true) (by rw [is_bytes_row (l := cutB (hdI h)) (by omega) (fun b m => wrs_byt b (List.mem_of_mem_take m))]; rfl) (Is.iteT rfl (Is.bind (asD_row _) (Is.bindX e))))
theorem read_odd {d : D} (hd : smallD d) (h : isBytes d = false) : m_read_head d = .err ⟨"NoBody", []⟩ := by
  unfold m_read_head m_read_as__head_in__head_body
  rw [is_bytes_ok hd, h]
  rfl
theorem refused_r {d : D} (h : m_read_head d = .err ⟨"NoBody", []⟩) : l_refused__read_head d = .ok true := by
  unfold l_refused__read_head
  rw [h]
  rfl
theorem refused_b {d : D} (h : m_head_body d = .err ⟨"NoBody", []⟩) : l_refused__head_body d = .ok true := by
  unfold l_refused__head_body
  rw [h]
  rfl
theorem kept_l {h : Hd} (hl : h.c.length ≤ 8) : l_kept h = .ok h := by
  unfold l_kept
  rw [compR_map (g := fun n : Ln => n) (by omega) fun _ _ => rfl, List.map_id']
  rfl
theorem kinds_l {h : Hd} (hl : h.c.length ≤ 8) : l_kinds h = .ok true := by
  unfold l_kinds
  refine Is.iteT isT (Is.iteT isLi ?_)
  rw [compR_map (g := fun _ => true) (by omega) fun x _ => (by
    show Res.bind (if isA "tuple" (enc x) = true then Res.ok (isA "list" (enc x.c)) else Res.ok false) _ = _
    rw [if_pos (show isA "tuple" (enc x) = true from isT), show isA "list" (enc x.c) = true from isLi]
    rfl)]
  show Res.ok ((h.c.map fun _ => true).all id) = _
  simp
/-! ## what the law draws -/
theorem lowest_eq {a b : Int} (h : 0 < b) (hs : b.natAbs < 2 ^ 8800) : l_lowest a b = .ok (lowT a b) := by
  have e0 : l_lowest a b = (l_shared a b).bind fun x1 => guardR (CDivW a x1) <| guardR (CDivW b x1) <| .ok (⟨(a / x1), (b / x1)⟩ : Fr) := rfl
  have e1 : l_shared a b = .ok (Int.gcd a b : Int) := div_ok a b
  rw [e0, e1]
  have hg : 0 < Int.gcd a b := Int.gcd_pos_of_ne_zero_right a (by omega)
  have es : shr a b = ((Int.gcd a b : Nat) : Int) := by unfold shr; rw [if_neg (by omega)]
  have hs2 := (shr_small (a := a) (b := b) (by omega)).2
  rw [es] at hs2
  have c : CDivW a ((Int.gcd a b : Nat) : Int) := divW (by omega) (b := 8800) (Nat.lt_of_le_of_lt hs2 hs)
  show guardR (CDivW a ((Int.gcd a b : Nat) : Int)) (guardR (CDivW b ((Int.gcd a b : Nat) : Int)) (.ok (⟨a / ((Int.gcd a b : Nat) : Int), b / ((Int.gcd a b : Nat) : Int)⟩ : Fr))) = _
  unfold guardR
  rw [if_pos c, if_pos (show CDivW b ((Int.gcd a b : Nat) : Int) from c)]
  unfold lowT
  rw [es, Int.fdiv_eq_ediv_of_nonneg a (by omega), Int.fdiv_eq_ediv_of_nonneg b (by omega)]
theorem low_mo {a b : Int} (h0 : 0 ≤ a) (ha : a ≤ T30) (h1 : 0 < b) (hb : b ≤ T30) : MoF (lowT a b) ∧ (0 < a → 0 < (lowT a b).a) := by
  obtain ⟨p, q, e, l1, l2⟩ := lowT_of (a := a) (b := b) (by omega)
  have f0 : 0 ≤ (lowT a b).a := by
    rcases Int.lt_or_le (lowT a b).a 0 with c | c
    · have := Int.mul_neg_of_neg_of_pos c h1
      have := Int.mul_nonneg h0 (Int.le_of_lt p)
      omega
    · exact c
  refine ⟨⟨⟨p, q⟩, f0, by omega, by omega⟩, fun h => ?_⟩
  rcases Int.lt_or_le 0 (lowT a b).a with c | c
  · exact c
  · have z : (lowT a b).a = 0 := by omega
    rw [z, Int.zero_mul] at e
    have := Int.mul_pos h p
    omega
theorem low_ok {β : Type} {a b : Int} {k : Fr → Res β} {ψ : β → Prop} (h0 : 0 ≤ a) (ha : a ≤ T30) (h1 : 0 < b) (hb : b ≤ T30) (h : ∀ f, MoF f → (0 < a → 0 < f.a) → Ok (k f) ψ) : Ok ((l_lowest a b).bind k) ψ :=
  Ok.bindE (lowest_eq h1 (Nat.lt_of_lt_of_le (sz30 (by omega) hb) (Nat.pow_le_pow_right (by decide) (by decide)))) (h _ (low_mo h0 ha h1 hb).1 (low_mo h0 ha h1 hb).2)
theorem moment_l {st : List Int} {m : Int} (h : Gd st) (hm : 0 < m) (hm2 : m ≤ T30) : Ok (l_moment st m) fun r => MoF r.1 ∧ r.2.length = 3 := by
  unfold l_moment
  have t := t30
  refine dg h hm (sz30 (by omega) hm2) fun x s1 a1 b1 h1 => ?_
  refine dg (gd3 h1) (by decide) (bg (by decide)) fun n s2 a2 b2 h2 => Ok.ixm a2 (by show n < 3; exact b2) fun y my => ?_
  have hy : 0 < y ∧ y ≤ T30 := by
    simp only [List.mem_cons, List.not_mem_nil, or_false] at my
    rcases my with rfl | rfl | rfl
    · exact ⟨by decide, by decide⟩
    · exact ⟨by decide, by decide⟩
    · exact ⟨by decide, by decide⟩
  refine dg (gd3 h2) hy.1 (sz30 (by omega) hy.2) fun z s3 a3 b3 h3 => low_ok a1 (by omega) (by omega) (by omega) fun f hf _ => Ok.pure ⟨hf, h3⟩
theorem edit_l {st : List Int} (h : Gd st) : Ok (l_edit st) fun r => GoodEd r.1 ∧ r.2.length = 3 := by
  unfold l_edit
  have t := t30
  refine dg h (by decide) (bg (by decide)) fun n s1 a1 b1 h1 => Ok.ixm a1 (by show n < 3; exact b1) fun y my => ?_
  have hy : 9 ≤ y ∧ y ≤ T30 := by
    simp only [List.mem_cons, List.not_mem_nil, or_false] at my
    rcases my with rfl | rfl | rfl
    · exact ⟨by decide, by decide⟩
    · exact ⟨by decide, by decide⟩
    · exact ⟨by decide, by decide⟩
  refine dg (gd3 h1) (by omega) (sz30 (by omega) hy.2) fun z s3 a3 b3 h3 => ?_
  refine dg (gd3 h3) (by decide) (bg (by decide)) fun w s4 a4 b4 h4 => low_ok (by omega) (by omega) (by omega) (by omega) fun f hf hp => ?_
  refine dg (gd3 h4) (by decide) (bg (by decide)) fun v s5 a5 b5 h5 => Ok.ite (fun _ => Ok.pure ⟨⟨hf, hp (by omega), rfl⟩, h5⟩) fun _ => ?_
  refine Ok.bind (moment_l (gd3 h5) (by omega) hy.2) ?_
  rintro ⟨f2, s6⟩ ⟨hf2, h6⟩
  refine Ok.bind (moment_l (gd3 h6) (by decide) (by decide)) ?_
  rintro ⟨f3, s7⟩ ⟨hf3, h7⟩
  exact Ok.pure ⟨⟨hf, hp (by omega), hf2, hf3⟩, h7⟩
theorem Ok.after' {S β : Type} {k : S → Res β} {s : S} {ψ : β → Prop} (h : Ok (k s) ψ) : Ok (afterR k (.nx s)) ψ := h
theorem head_l {st : List Int} (h : Gd st) : Ok (l_head st) fun r => (GoodH r.1 ∧ ∀ n ∈ r.1.c, n.c.length ≤ 4) ∧ r.2.length = 3 := by
  unfold l_head
  refine dg h (by decide) (bg (by decide)) fun n1 s1 a1 b1 h1 => Ok.ixm a1 (by show n1 < 2; exact b1) fun y my => ?_
  have hy : 3 ≤ y ∧ y ≤ 8 := by
    simp only [List.mem_cons, List.not_mem_nil, or_false] at my
    rcases my with rfl | rfl <;> omega
  refine dg (gd3 h1) (by omega) (bg (by omega)) fun n2 s2 a2 b2 h2 => Ok.guard (by show -(2 ^ 62) ≤ 1 + n2 ∧ 1 + n2 < 2 ^ 62; omega) ?_
  have ln : (rngI 0 (1 + n2)).length ≤ 8 ∧ 1 ≤ (rngI 0 (1 + n2)).length := by
    obtain ⟨m, hm⟩ : ∃ m : Nat, 1 + n2 = (m : Int) := ⟨(1 + n2).toNat, by omega⟩
    rw [hm, rng_len]
    omega
  show Ok ((forR (rngI 0 (1 + n2)) _ _).bind _) _
  generalize rngI 0 (1 + n2) = rn at ln
  rw [← List.map_id rn]
  refine Ok.bind (Ok.forM' (g := id) (fun xs (s : List Int × List Ln) => (∀ n ∈ s.2, GoodLn n ∧ n.c.length ≤ 4) ∧ s.2.length + xs.length = rn.length ∧ s.1.length = 3) ?_ ⟨fun _ m => (nomatch m), by show 0 + _ = _; omega, h2⟩) ?_
  · rintro y ys ⟨st, rows⟩ ⟨g1, g2, g3⟩
    have g1 : ∀ n ∈ rows, GoodLn n ∧ n.c.length ≤ 4 := g1
    have g2 : rows.length + (ys.length + 1) = rn.length := g2
    have g3 : st.length = 3 := g3
    refine dg (gd3 g3) (by decide) (bg (by decide)) fun m s3 a3 b3 h3 => Ok.guard (by show -(2 ^ 62) ≤ m; omega) ?_
    have lm : (rngI 0 m).length ≤ 4 := by
      obtain ⟨k, hk⟩ : ∃ k : Nat, m = (k : Int) := ⟨m.toNat, by omega⟩
      rw [hk, rng_len]
      omega
    show Ok ((compR (rngI 0 m) s3 _).bind _) _
    generalize rngI 0 m = rm at lm
    refine Ok.bind (Ok.compLen (by omega) (fun s : List Int => s.length = 3) GoodEd (fun x s mx hs => ?_) h3) ?_
    · refine Ok.bind (edit_l (gd3 hs)) ?_
      rintro ⟨e, s'⟩ ⟨he, hs'⟩
      exact Ok.pure ⟨hs', fun b eb => by cases eb; exact he⟩
    · rintro ⟨es, s4⟩ ⟨h4, ge, le⟩
      have h4 : s4.length = 3 := h4
      have ge : ∀ e ∈ es, GoodEd e := ge
      have le : es.length ≤ rm.length := le
      show Ok ((l_digit s4 1000000).bind _) _
      refine dg (gd3 h4) (by decide) (bg (by decide)) fun u s5 a5 b5 h5 => ?_
      refine dg (gd3 h5) (by decide) (bg (by decide)) fun v s6 a6 b6 h6 => Ok.ixm a6 (by show v < 3; exact b6) fun w mw => ?_
      have hw : 1 ≤ w ∧ w ≤ 1000000 := by
        simp only [List.mem_cons, List.not_mem_nil, or_false] at mw
        rcases mw with rfl | rfl | rfl <;> omega
      refine dg (gd3 h6) (by decide) (bg (by decide)) fun c s7 a7 b7 h7 => Ok.guard (by show rows.length < _; omega) (Ok.pure ⟨_, rfl, fun n m => ?_, ?_, h7⟩)
      · rcases List.mem_append.mp m with m | m
        · exact g1 n m
        · rw [List.mem_singleton.mp m]
          exact ⟨⟨hw, ⟨a7, by show c ≤ 200; omega⟩, by show es.length ≤ 59; omega, ge⟩, by show es.length ≤ 4; omega⟩
      · show (rows ++ [_]).length + ys.length = rn.length
        rw [List.length_append, List.length_singleton]
        omega
  · rintro _ ⟨⟨st, rows⟩, rfl, g1, g2, g3⟩
    have g1 : ∀ n ∈ rows, GoodLn n ∧ n.c.length ≤ 4 := g1
    have g2 : rows.length + 0 = rn.length := g2
    have g3 : st.length = 3 := g3
    refine Ok.after' ?_
    refine dg (gd3 g3) (by decide) (bg (by decide)) fun u s5 a5 b5 h5 => ?_
    refine dg (gd3 h5) (by decide) (bg (by decide)) fun v s6 a6 b6 h6 => Ok.pure ⟨⟨⟨⟨a5, by show u ≤ 1000000000; omega⟩, ⟨by show 1 ≤ 1 + v; omega, by show 1 + v ≤ 16; omega⟩, ⟨by show 1 ≤ rows.length; omega, by show rows.length ≤ 8; omega⟩, fun n m => (g1 n m).1⟩, fun n m => (g1 n m).2⟩, h6⟩
/-! ## what is none -/
def isF (r : Res Bool) : Bool := match r with | .ok false => true | _ => false
def isTr (r : Res Bool) : Bool := match r with | .ok true => true | _ => false
theorem ofF {r : Res Bool} (h : isF r = true) : r = .ok false := by
  cases r with
  | ok b => cases b with
    | false => rfl
    | true => exact nomatch h
  | err e => exact nomatch h
  | stuck => exact nomatch h
theorem ofT {r : Res Bool} (h : isTr r = true) : r = .ok true := by
  cases r with
  | ok b => cases b with
    | true => rfl
    | false => exact nomatch h
  | err e => exact nomatch h
  | stuck => exact nomatch h
abbrev rowC : D := enc (⟨(⟨1, 2⟩ : (Tp2 Int Int)), (⟨0, 1⟩ : (Tp2 Int Int)), (⟨1, 1⟩ : (Tp2 Int Int))⟩ : (Tp3 (Tp2 Int Int) (Tp2 Int Int) (Tp2 Int Int)))
def p2 (a b : Int) : D := .tup [.int a, .int b]
def oddL : List D := [.non, .tup [p2 1 2, p2 0 1], .lst [p2 1 2, p2 0 1, p2 1 1], .tup [p2 0 1, p2 0 1, p2 1 1], .tup [p2 2 2, p2 0 1, p2 1 1], .tup [p2 1 2, p2 1 0, p2 1 1],
  .tup [p2 (-1) 2, p2 0 1, p2 1 1], .tup [p2 1 2, .non, p2 1 1], .tup [p2 1 2, p2 0 1, p2 (-1) 1], .tup [p2 1 2, .int 3, p2 1 1],
  .tup [p2 (1000000000000000000000000000000 + 1) 1, .non, p2 0 1], .tup [p2 1 2, p2 1 (1000000000000000000000000000000 + 1), p2 1 1], .tup [.tup [.bl true, .int 1], .non, p2 0 1]]
theorem odd_all : ∀ x ∈ oddL, Odd x := by
  intro x m
  simp only [oddL, List.mem_cons, List.not_mem_nil, or_false] at m
  rcases m with rfl | rfl | rfl | rfl | rfl | rfl | rfl | rfl | rfl | rfl | rfl | rfl | rfl
  · exact .inl (ofF (by decide +kernel))
  · exact .inl (ofF (by decide +kernel))
  · exact .inl (ofF (by decide +kernel))
  · exact .inl (ofF (by decide +kernel))
  · exact .inl (ofF (by decide +kernel))
  · exact .inl (ofF (by decide +kernel))
  · exact .inl (ofF (by decide +kernel))
  · exact .inl (ofF (by decide +kernel))
  · exact .inl (ofF (by decide +kernel))
  · exact .inl (ofF (by decide +kernel))
  · exact .inr ⟨⟨⟨1000000000000000000000000000000 + 1, 1⟩, none, ⟨0, 1⟩⟩, rfl, ofT (by decide +kernel), ofF (by decide +kernel)⟩
  · exact .inr ⟨⟨⟨1, 2⟩, some ⟨1, 1000000000000000000000000000000 + 1⟩, ⟨1, 1⟩⟩, rfl, ofT (by decide +kernel), ofF (by decide +kernel)⟩
  · exact .inl (ofF (by decide +kernel))
theorem no_edit_l {st : List Int} (h : Gd st) : Ok (l_no_edit st rowC) fun r => Odd r.1 ∧ r.2.length = 3 := by
  have e : l_no_edit st rowC = (l_digit st 13).bind fun x => (ixR oddL x.1).bind fun y => .ok (y, x.2) := rfl
  rw [e]
  exact dg h (by decide) (bg (by decide)) fun n s a b hs => Ok.ixm a (by show n < 13; exact b) fun x m => Ok.pure ⟨odd_all x m, hs⟩
theorem lane_u {x b c : D} (h : isWhole x 1 1000000 = false) : m_is_head_lane (.tup [x, b, c]) = .ok false := by rw [lane3, h]; rfl
theorem lane_c {n : Ln} (g : GoodLn n) {x c : D} (h : isWhole x 0 200 = false) : m_is_head_lane (.tup [.int n.a, x, c]) = .ok false := by rw [lane3, isW g.u, h]; rfl
theorem lane_e {n : Ln} (g : GoodLn n) {c : D} (h : m_are_lane_edits c = .ok false) : m_is_head_lane (.tup [.int n.a, .int n.b, c]) = .ok false := by
  rw [lane3, isW g.u, isW g.c]
  exact Is.iteT rfl (Is.iteT rfl (Is.bind h rfl))
theorem lane_many {l : List D} (h : 60 < l.length) : m_are_lane_edits (.lst l) = .ok false := by
  unfold m_are_lane_edits
  exact Is.iteT isLi (Is.bind (a := l) rfl (Is.iteT (decide_eq_true (by omega)) rfl))
theorem no_lane_l {st : List Int} {n : Ln} (h : Gd st) (g : GoodLn n) (hl : n.c.length ≤ 4) : Ok (l_no_lane st n) fun r => m_is_head_lane r.1 = .ok false ∧ r.2.length = 3 := by
  unfold l_no_lane
  refine dg h (by decide) (bg (by decide)) fun a s1 a0 a1 h1 => ?_
  refine Ok.ite (fun _ => ?_) fun _ => Ok.ite (fun _ => ?_) fun _ => Ok.ite (fun _ => ?_) fun _ => Ok.ite (fun _ => ?_) fun _ => ?_
  · refine Ok.bind (no_edit_l (gd3 h1)) ?_
    rintro ⟨x, s2⟩ ⟨hx, h2⟩
    refine Ok.guard (by rw [List.length_map]; show n.c.length + 1 ≤ _; omega) (Ok.pure ⟨?_, h2⟩)
    show m_is_head_lane (.tup [.int n.a, .int n.b, .lst ((n.c.map (enc : Ed → D) ++ [x]).map (enc : D → D))]) = _
    rw [mapD]
    exact lane_e g (lane_edits_no (by omega) g.e hx)
  · refine dg (gd3 h1) (by decide) (bg (by decide)) fun k s2 b0 b1 h2 => Ok.ixm b0 (by show k < 7; exact b1) fun x m => Ok.pure ⟨lane_u ?_, h2⟩
    simp only [List.mem_cons, List.not_mem_nil, or_false] at m
    rcases m with rfl | rfl | rfl | rfl | rfl | rfl | rfl <;> rfl
  · refine dg (gd3 h1) (by decide) (bg (by decide)) fun k s2 b0 b1 h2 => Ok.ixm b0 (by show k < 6; exact b1) fun x m => Ok.pure ⟨lane_c g ?_, h2⟩
    simp only [List.mem_cons, List.not_mem_nil, or_false] at m
    rcases m with rfl | rfl | rfl | rfl | rfl | rfl <;> rfl
  · refine Ok.guard (by decide) ?_
    refine dg (gd3 h1) (by decide) (bg (by decide)) fun k s2 b0 b1 h2 => Ok.ixm b0 (by show k < 6; exact b1) fun x m => Ok.pure ⟨lane_e g ?_, h2⟩
    simp only [List.mem_cons, List.not_mem_nil, or_false] at m
    rcases m with rfl | rfl | rfl | rfl | rfl | rfl
    · rfl
    · rfl
    · rfl
    · rfl
    · rfl
    · refine lane_many ?_
      rw [List.length_map]
      unfold timesL
      simp
  · refine dg (gd3 h1) (by decide) (bg (by decide)) fun k s2 b0 b1 h2 => Ok.ixm b0 (by show k < 6; exact b1) fun x m => Ok.pure ⟨?_, h2⟩
    simp only [List.mem_cons, List.not_mem_nil, or_false] at m
    rcases m with rfl | rfl | rfl | rfl | rfl | rfl <;> rfl
theorem head_s {x b c : D} (h : isWhole x 0 1000000000 = false) : m_is_head (.tup [x, b, c]) = .ok false := by rw [head3, h]; rfl
theorem head_w {h : Hd} (g : GoodH h) {x c : D} (hx : isWhole x 1 16 = false) : m_is_head (.tup [.int h.a, x, c]) = .ok false := by rw [head3, isW g.s, hx]; rfl
theorem head_n {h : Hd} (g : GoodH h) {c : D} (hc : isA "list" c = false) : m_is_head (.tup [.int h.a, .int h.b, c]) = .ok false := by rw [head3, isW g.s, isW g.w, hc]; rfl
theorem head_z {h : Hd} (g : GoodH h) {l : List D} (hl : l.length = 0 ∨ 8 < l.length) : m_is_head (.tup [.int h.a, .int h.b, .lst l]) = .ok false := by
  rw [head3, isW g.s, isW g.w]
  refine Is.iteT rfl (Is.iteT rfl (Is.iteT isLi (Is.bind (a := l) rfl ?_)))
  rcases hl with hl | hl
  · exact Is.iteF (decide_eq_false (by omega)) rfl
  · exact Is.iteT (decide_eq_true (by omega)) (Is.iteF (decide_eq_false (by omega)) rfl)
theorem head_l' {h : Hd} (g : GoodH h) {l : List D} {x : D} (hx : m_is_head_lane x = .ok false) (mx : x ∈ l) (hl : ∀ y ∈ l, y = x ∨ m_is_head_lane y = .ok true) : m_is_head (.tup [.int h.a, .int h.b, .lst l]) = .ok false := by
  rw [head3, isW g.s, isW g.w]
  refine Is.iteT rfl (Is.iteT rfl (Is.iteT isLi (Is.bind (a := l) rfl ?_)))
  by_cases c1 : 1 ≤ (l.length : Int)
  · by_cases c2 : (l.length : Int) ≤ 8
    · refine Is.iteT (decide_eq_true c1) (Is.iteT (decide_eq_true c2) (Is.bind (a := l) rfl ?_))
      rw [compR_map (g := fun y => isTr (m_is_head_lane y)) (by omega) (fun y m => by
        rcases hl y m with rfl | q
        · rw [hx]; rfl
        · rw [q]; rfl)]
      show Res.ok ((l.map fun y => isTr (m_is_head_lane y)).all id) = _
      rw [List.all_map]
      refine congrArg Res.ok (Bool.eq_false_iff.mpr fun z => ?_)
      have := List.all_eq_true.mp z x mx
      rw [show (id ∘ fun y => isTr (m_is_head_lane y)) x = isTr (m_is_head_lane x) from rfl, hx] at this
      exact nomatch this
    · exact Is.iteT (decide_eq_true c1) (Is.iteF (decide_eq_false c2) rfl)
  · exact Is.iteF (decide_eq_false c1) rfl
theorem cut_take' {α : Type} {l : List α} {n : Nat} (h : n ≤ l.length) : cutL l none (some (n : Int)) = l.take n := by
  unfold cutL
  rw [HT.sIx_nat, HT.sIx_none, show min n l.length = n by omega]
  rfl
theorem cutL_all {α : Type} {l : List α} {lo hi' : Option Int} {P : α → Prop} (h : ∀ x ∈ l, P x) : ∀ x ∈ cutL l lo hi', P x := fun x m => h x (cutL_mem m)
theorem no_head_l {st : List Int} {h : Hd} (hs : Gd st) (g : GoodH h) (h4 : ∀ n ∈ h.c, n.c.length ≤ 4) : Ok (l_no_head st h) fun r => m_is_head r.1 = .ok false ∧ r.2.length = 3 := by
  unfold l_no_head
  have gl := g.l
  refine dg hs (by decide) (bg (by decide)) fun a s1 a0 a1 h1 => ?_
  refine Ok.ite (fun _ => ?_) fun _ => Ok.ite (fun _ => ?_) fun _ => Ok.ite (fun _ => ?_) fun _ => Ok.ite (fun _ => ?_) fun _ => ?_
  · refine dg (gd3 h1) (by decide) (bg (by decide)) fun k s2 b0 b1 h2 => Ok.ixm b0 (by show k < 7; exact b1) fun x m => Ok.pure ⟨?_, h2⟩
    simp only [List.mem_cons, List.not_mem_nil, or_false] at m
    rcases m with rfl | rfl | rfl | rfl | rfl | rfl | rfl <;> rfl
  · refine dg (gd3 h1) (by decide) (bg (by decide)) fun k s2 b0 b1 h2 => Ok.ixm b0 (by show k < 5; exact b1) fun x m => Ok.pure ⟨head_s ?_, h2⟩
    simp only [List.mem_cons, List.not_mem_nil, or_false] at m
    rcases m with rfl | rfl | rfl | rfl | rfl <;> rfl
  · refine dg (gd3 h1) (by decide) (bg (by decide)) fun k s2 b0 b1 h2 => Ok.ixm b0 (by show k < 6; exact b1) fun x m => Ok.pure ⟨head_w g ?_, h2⟩
    simp only [List.mem_cons, List.not_mem_nil, or_false] at m
    rcases m with rfl | rfl | rfl | rfl | rfl | rfl <;> rfl
  · refine Ok.guard ⟨by show h.c.length * 9 ≤ _; omega, by decide, by decide⟩ ?_
    refine dg (gd3 h1) (by decide) (bg (by decide)) fun k s2 b0 b1 h2 => Ok.ixm b0 (by show k < 5; exact b1) fun x m => Ok.pure ⟨?_, h2⟩
    simp only [List.mem_cons, List.not_mem_nil, or_false] at m
    rcases m with rfl | rfl | rfl | rfl | rfl
    · exact head_z g (.inl rfl)
    · exact head_n g rfl
    · exact head_n g rfl
    · exact head_n g rfl
    · refine head_z g (.inr ?_)
      have ht : (timesL h.c 9).length = 9 * h.c.length := by
        unfold timesL
        rw [PyProof.Rows.lm_len_rep_flat]
        rfl
      rw [List.length_map]
      have : cutL (timesL h.c 9) none (some 9) = (timesL h.c 9).take 9 := cut_take' (n := 9) (by omega)
      rw [this, List.length_take]
      omega
  · refine dg (gd3 h1) (by show 0 < (h.c.length : Int); omega) (bg (by show ((h.c.length : Int)).natAbs < _; omega)) fun k s2 b0 b1 h2 => Ok.ixm b0 b1 fun n mn => ?_
    refine Ok.bind (no_lane_l (gd3 h2) (g.n n mn) (h4 n mn)) ?_
    rintro ⟨x, s3⟩ ⟨hx, h3⟩
    have l1 : (cutL h.c none (some k)).length ≤ 8 := Nat.le_trans cutL_len gl.2
    have l2 : (cutL h.c (some (k + 1)) none).length ≤ 8 := Nat.le_trans cutL_len gl.2
    refine Ok.guard (by rw [List.length_map]; show (cutL h.c none (some k)).length + 1 ≤ _; omega) (Ok.guard (by rw [List.length_append, List.length_map, List.length_map]; show (cutL h.c none (some k)).length + 1 + (cutL h.c (some (k + 1)) none).length ≤ _; omega) (Ok.pure ⟨?_, h3⟩))
    show m_is_head (.tup [.int h.a, .int h.b, .lst ((((cutL h.c none (some k)).map (enc : Ln → D) ++ [x]) ++ (cutL h.c (some (k + 1)) none).map (enc : Ln → D)).map (enc : D → D))]) = _
    rw [mapD]
    refine head_l' g hx (by simp) fun y my => ?_
    rcases List.mem_append.mp my with my | my
    · rcases List.mem_append.mp my with my | my
      · obtain ⟨q, mq, rfl⟩ := List.mem_map.mp my
        exact .inr (lane_ok (cutL_all g.n q mq))
      · exact .inl (List.mem_singleton.mp my)
    · obtain ⟨q, mq, rfl⟩ := List.mem_map.mp my
      exact .inr (lane_ok (cutL_all g.n q mq))
theorem eqOk_ed (e : Ed) : eqOk 16 (enc e) = true := by
  obtain ⟨a, b, c⟩ := e
  cases b <;> rfl
theorem eqOk_ln (n : Ln) : eqOk 18 (enc n) = true := by
  show (true && (true && (eqOks 16 (n.c.map (enc : Ed → D)) && true))) = true
  rw [eqOk_lst fun e _ => eqOk_ed e]
  rfl
theorem eqOk_hd (h : Hd) : eqOk 20 (enc h) = true := by
  show (true && (true && (eqOks 18 (h.c.map (enc : Ln → D)) && true))) = true
  rw [eqOk_lst fun n _ => eqOk_ln n]
  rfl
theorem law_ok (ns : List Int) (h : ns.length ≤ 63) : m_law ns = .ok true := by
  have q : Ok (m_law ns) fun r => r = true := by
    unfold m_law
    have l1 : (cutL ns none (some 8)).length ≤ 63 := Nat.le_trans cutL_len h
    refine Ok.guard (okEq_of rfl rfl) (Ok.iteF (by rw [eqD_refl rfl]; rfl) (Ok.guard (by show _ + 2 ≤ _; omega) ?_))
    refine Ok.bind (Ok.for (fun _ : Unit => True) (fun x _ _ _ => ?_) trivial) ?_
    · refine Ok.bind (head_l (st := [x]) (.inl rfl)) ?_
      rintro ⟨hd, st⟩ ⟨⟨g, g4⟩, h3⟩
      have g : GoodH hd := g
      have g4 : ∀ n ∈ hd.c, n.c.length ≤ 4 := g4
      have h3 : st.length = 3 := h3
      have gl := g.l
      refine Ok.bindE (numbers_l g) ?_
      refine Ok.bindE (all_l (ns := hdI hd) (hd_nm g) (by have := hdI_len g; omega)) ?_
      have e1 := body_m g
      have e2 := read_m g
      have e3 := same (eqOk_hd hd)
      have e4 := refused_r (read_more g)
      have e5 := refused_r (read_less g)
      have hlen := hd_len g
      have e6 : isA "list" (enc (wrs (hdI hd))) = true := isLi
      have hb : ∀ b ∈ wrs (hdI hd), Byt b := wrs_byt
      unfold cutB at e5
      generalize wrs (hdI hd) = due at e1 e2 e4 e5 e6 hlen hb
      refine Ok.bind (Ok.for (fun _ : Unit => True) (fun _ _ _ _ => ?_) trivial) ?_
      · refine Ok.bindE (kept_l gl.2) ?_
        refine Ok.bindE (a := due) (by rw [e1]; rfl) ?_
        refine Ok.iteT e6 (Ok.guard (ok_rows _ _) (Ok.iteF (by rw [eq_row]; rfl) ?_))
        refine Ok.guard e3.1 (Ok.iteF (by rw [e3.2]; rfl) ?_)
        refine Ok.bindE (a := hd) (by rw [e2]; rfl) ?_
        refine Ok.guard e3.1 (Ok.iteF (by rw [e3.2]; rfl) ?_)
        refine Ok.bindE (kinds_l gl.2) (Ok.iteT rfl ?_)
        refine Ok.guard (ok_rows _ _) (Ok.iteF (by rw [eq_row]; rfl) ?_)
        refine Ok.ixm (by decide) (by omega) fun n mn => ?_
        have := g4 n mn
        refine Ok.guard (by omega) (Ok.guard (by omega) (Ok.guard (by omega) ?_))
        refine Ok.bindE e4 (Ok.iteT rfl ?_)
        rw [cut_most]
        exact Ok.bindE e5 (Ok.iteT rfl (Ok.pure ⟨_, rfl, trivial⟩))
      · rintro _ ⟨_, rfl, _⟩
        refine Ok.after' ?_
        refine Ok.bind (no_head_l (gd3 h3) g g4) ?_
        rintro ⟨d, s2⟩ ⟨hd', h4⟩
        refine Ok.bindE (refused_b (body_no hd')) (Ok.iteT rfl ?_)
        refine dg (gd3 h4) (by decide) (bg (by decide)) fun n s3 a0 a1 h5 => Ok.ixm a0 (by show n < 7; exact a1) fun x m => ?_
        have hx : smallD x ∧ isBytes x = false := by
          simp only [List.mem_cons, List.not_mem_nil, or_false] at m
          rcases m with rfl | rfl | rfl | rfl | rfl | rfl | rfl
          · exact ⟨trivial, rfl⟩
          · exact ⟨trivial, rfl⟩
          · exact ⟨trivial, rfl⟩
          · exact ⟨trivial, rfl⟩
          · exact ⟨trivial, rfl⟩
          · exact ⟨by show 1 ≤ 1000000; decide, rfl⟩
          · exact ⟨by show 1 ≤ 1000000; decide, rfl⟩
        exact Ok.bindE (refused_r (read_odd hx.1 hx.2)) (Ok.iteT rfl (Ok.pure ⟨_, rfl, trivial⟩))
    · rintro _ ⟨_, rfl, _⟩
      exact Ok.pure rfl
  obtain ⟨a, e, rfl⟩ := q
  exact e
end A

set_option Elab.async false
set_option linter.all false
set_option maxRecDepth 100000
set_option maxHeartbeats 4000000
namespace A
open PySem PySem.Spec PyProof.Rows L2 Y
open Y.Enc (enc)
theorem all_mk {l : PySem.W.OpenLaw} {w : World} {K : PySem.W.Frag} {h : Heap} {mg : Str → Option Value} {fa : Addr} (X : K.In h) (G : h.Ns mainGlobals mg) (hfa : mg "law" = some (.ref fa))
    {C_Numbers : Addr}
    (kca_Numbers : PySem.W.nsIn K mainGlobals "Numbers" = some (some (.ref C_Numbers)))
    (kcpg_Numbers : PySem.W.plainGet K C_Numbers Str.empty = true)
    (kchd_Numbers : PySem.W.hasDictIn K C_Numbers = true)
    (kcpo_Numbers : PySem.W.plainOver K C_Numbers = true)
    (kcsa_Numbers : PySem.W.findIn K (.ref C_Numbers) "__setattr__" = some (some (.builtin "object.__setattr__")))
    (kcha_Numbers : PySem.W.findIn K (.ref C_Numbers) "__class__" = some (some (.builtin "object.__class__")))
    (kchm_Numbers : PySem.W.mroIn K C_Numbers (.type "object") = some true)
    (kcty_Numbers : PySem.W.typeIn K (.ref C_Numbers) = some (.type "type"))
    (kcis_Numbers : PySem.W.isClsIn K C_Numbers = true)
    (kcself_Numbers : PySem.W.subIn K (.ref C_Numbers) (.ref C_Numbers) = some true)
    (kctbool_Numbers : PySem.W.subIn K (.ref C_Numbers) (.type "bool") = some false)
    (kctint_Numbers : PySem.W.subIn K (.ref C_Numbers) (.type "int") = some false)
    (kctstr_Numbers : PySem.W.subIn K (.ref C_Numbers) (.type "str") = some false)
    (kctlist_Numbers : PySem.W.subIn K (.ref C_Numbers) (.type "list") = some false)
    (kcttuple_Numbers : PySem.W.subIn K (.ref C_Numbers) (.type "tuple") = some false)
    (kctdict_Numbers : PySem.W.subIn K (.ref C_Numbers) (.type "dict") = some false)
    (kcmk_Numbers : PySem.W.makesIn K C_Numbers = true)
    (kckp_Numbers : PySem.W.keepIn K (.ref C_Numbers) = true)
    (n_Numbers_row : PySem.W.findIn K (.ref C_Numbers) "row" = some none)
    (n_Numbers_at : PySem.W.findIn K (.ref C_Numbers) "at" = some none)
    {f_divisor : Addr} {od_divisor an_divisor : Option Addr} {sl_divisor : Array (Option Value)} {oc_divisor kV_divisor dc_divisor pm_divisor cd_divisor ct_divisor : Value}
    (a_divisor : PySem.W.nsIn K mainGlobals "divisor" = some (some (.ref f_divisor))) (l_divisor : K.lookup f_divisor = some ⟨oc_divisor, od_divisor, .func (PySem.W.fnOf "divisor" "divisor" (defArgs s_divisor) (defBody s_divisor) (defScope s_divisor) .none kV_divisor dc_divisor pm_divisor an_divisor cd_divisor ct_divisor), sl_divisor⟩) (c_divisor : PySem.W.codeIn K cd_divisor "divisor" = true) (k_divisor : PySem.W.keepIn K (.ref f_divisor) = true)
    {f_is_number : Addr} {od_is_number an_is_number : Option Addr} {sl_is_number : Array (Option Value)} {oc_is_number kV_is_number dc_is_number pm_is_number cd_is_number ct_is_number : Value}
    (a_is_number : PySem.W.nsIn K mainGlobals "is_number" = some (some (.ref f_is_number))) (l_is_number : K.lookup f_is_number = some ⟨oc_is_number, od_is_number, .func (PySem.W.fnOf "is_number" "is_number" (defArgs s_is_number) (defBody s_is_number) (defScope s_is_number) .none kV_is_number dc_is_number pm_is_number an_is_number cd_is_number ct_is_number), sl_is_number⟩) (c_is_number : PySem.W.codeIn K cd_is_number "is_number" = true) (k_is_number : PySem.W.keepIn K (.ref f_is_number) = true)
    {f_is_fraction : Addr} {od_is_fraction an_is_fraction : Option Addr} {sl_is_fraction : Array (Option Value)} {oc_is_fraction kV_is_fraction dc_is_fraction pm_is_fraction cd_is_fraction ct_is_fraction : Value}
    (a_is_fraction : PySem.W.nsIn K mainGlobals "is_fraction" = some (some (.ref f_is_fraction))) (l_is_fraction : K.lookup f_is_fraction = some ⟨oc_is_fraction, od_is_fraction, .func (PySem.W.fnOf "is_fraction" "is_fraction" (defArgs s_is_fraction) (defBody s_is_fraction) (defScope s_is_fraction) .none kV_is_fraction dc_is_fraction pm_is_fraction an_is_fraction cd_is_fraction ct_is_fraction), sl_is_fraction⟩) (c_is_fraction : PySem.W.codeIn K cd_is_fraction "is_fraction" = true) (k_is_fraction : PySem.W.keepIn K (.ref f_is_fraction) = true)
    {f_is_moment : Addr} {od_is_moment an_is_moment : Option Addr} {sl_is_moment : Array (Option Value)} {oc_is_moment kV_is_moment dc_is_moment pm_is_moment cd_is_moment ct_is_moment : Value}
    (a_is_moment : PySem.W.nsIn K mainGlobals "is_moment" = some (some (.ref f_is_moment))) (l_is_moment : K.lookup f_is_moment = some ⟨oc_is_moment, od_is_moment, .func (PySem.W.fnOf "is_moment" "is_moment" (defArgs s_is_moment) (defBody s_is_moment) (defScope s_is_moment) .none kV_is_moment dc_is_moment pm_is_moment an_is_moment cd_is_moment ct_is_moment), sl_is_moment⟩) (c_is_moment : PySem.W.codeIn K cd_is_moment "is_moment" = true) (k_is_moment : PySem.W.keepIn K (.ref f_is_moment) = true)
    {f_less : Addr} {od_less an_less : Option Addr} {sl_less : Array (Option Value)} {oc_less kV_less dc_less pm_less cd_less ct_less : Value}
    (a_less : PySem.W.nsIn K mainGlobals "less" = some (some (.ref f_less))) (l_less : K.lookup f_less = some ⟨oc_less, od_less, .func (PySem.W.fnOf "less" "less" (defArgs s_less) (defBody s_less) (defScope s_less) .none kV_less dc_less pm_less an_less cd_less ct_less), sl_less⟩) (c_less : PySem.W.codeIn K cd_less "less" = true) (k_less : PySem.W.keepIn K (.ref f_less) = true)
    {f_is_edit : Addr} {od_is_edit an_is_edit : Option Addr} {sl_is_edit : Array (Option Value)} {oc_is_edit kV_is_edit dc_is_edit pm_is_edit cd_is_edit ct_is_edit : Value}
    (a_is_edit : PySem.W.nsIn K mainGlobals "is_edit" = some (some (.ref f_is_edit))) (l_is_edit : K.lookup f_is_edit = some ⟨oc_is_edit, od_is_edit, .func (PySem.W.fnOf "is_edit" "is_edit" (defArgs s_is_edit) (defBody s_is_edit) (defScope s_is_edit) .none kV_is_edit dc_is_edit pm_is_edit an_is_edit cd_is_edit ct_is_edit), sl_is_edit⟩) (c_is_edit : PySem.W.codeIn K cd_is_edit "is_edit" = true) (k_is_edit : PySem.W.keepIn K (.ref f_is_edit) = true)
    {f_is_edits : Addr} {od_is_edits an_is_edits : Option Addr} {sl_is_edits : Array (Option Value)} {oc_is_edits kV_is_edits dc_is_edits pm_is_edits cd_is_edits ct_is_edits : Value}
    (a_is_edits : PySem.W.nsIn K mainGlobals "is_edits" = some (some (.ref f_is_edits))) (l_is_edits : K.lookup f_is_edits = some ⟨oc_is_edits, od_is_edits, .func (PySem.W.fnOf "is_edits" "is_edits" (defArgs s_is_edits) (defBody s_is_edits) (defScope s_is_edits) .none kV_is_edits dc_is_edits pm_is_edits an_is_edits cd_is_edits ct_is_edits), sl_is_edits⟩) (c_is_edits : PySem.W.codeIn K cd_is_edits "is_edits" = true) (k_is_edits : PySem.W.keepIn K (.ref f_is_edits) = true)
    {f_is_whole : Addr} {od_is_whole an_is_whole : Option Addr} {sl_is_whole : Array (Option Value)} {oc_is_whole kV_is_whole dc_is_whole pm_is_whole cd_is_whole ct_is_whole : Value}
    (a_is_whole : PySem.W.nsIn K mainGlobals "is_whole" = some (some (.ref f_is_whole))) (l_is_whole : K.lookup f_is_whole = some ⟨oc_is_whole, od_is_whole, .func (PySem.W.fnOf "is_whole" "is_whole" (defArgs s_is_whole) (defBody s_is_whole) (defScope s_is_whole) .none kV_is_whole dc_is_whole pm_is_whole an_is_whole cd_is_whole ct_is_whole), sl_is_whole⟩) (c_is_whole : PySem.W.codeIn K cd_is_whole "is_whole" = true) (k_is_whole : PySem.W.keepIn K (.ref f_is_whole) = true)
    {f_is_bytes : Addr} {od_is_bytes an_is_bytes : Option Addr} {sl_is_bytes : Array (Option Value)} {oc_is_bytes kV_is_bytes dc_is_bytes pm_is_bytes cd_is_bytes ct_is_bytes : Value}
    (a_is_bytes : PySem.W.nsIn K mainGlobals "is_bytes" = some (some (.ref f_is_bytes))) (l_is_bytes : K.lookup f_is_bytes = some ⟨oc_is_bytes, od_is_bytes, .func (PySem.W.fnOf "is_bytes" "is_bytes" (defArgs s_is_bytes) (defBody s_is_bytes) (defScope s_is_bytes) .none kV_is_bytes dc_is_bytes pm_is_bytes an_is_bytes cd_is_bytes ct_is_bytes), sl_is_bytes⟩) (c_is_bytes : PySem.W.codeIn K cd_is_bytes "is_bytes" = true) (k_is_bytes : PySem.W.keepIn K (.ref f_is_bytes) = true)
    {f_is_small : Addr} {od_is_small an_is_small : Option Addr} {sl_is_small : Array (Option Value)} {oc_is_small kV_is_small dc_is_small pm_is_small cd_is_small ct_is_small : Value}
    (a_is_small : PySem.W.nsIn K mainGlobals "is_small" = some (some (.ref f_is_small))) (l_is_small : K.lookup f_is_small = some ⟨oc_is_small, od_is_small, .func (PySem.W.fnOf "is_small" "is_small" (defArgs s_is_small) (defBody s_is_small) (defScope s_is_small) .none kV_is_small dc_is_small pm_is_small an_is_small cd_is_small ct_is_small), sl_is_small⟩) (c_is_small : PySem.W.codeIn K cd_is_small "is_small" = true) (k_is_small : PySem.W.keepIn K (.ref f_is_small) = true)
    {f_are_lane_edits : Addr} {od_are_lane_edits an_are_lane_edits : Option Addr} {sl_are_lane_edits : Array (Option Value)} {oc_are_lane_edits kV_are_lane_edits dc_are_lane_edits pm_are_lane_edits cd_are_lane_edits ct_are_lane_edits : Value}
    (a_are_lane_edits : PySem.W.nsIn K mainGlobals "are_lane_edits" = some (some (.ref f_are_lane_edits))) (l_are_lane_edits : K.lookup f_are_lane_edits = some ⟨oc_are_lane_edits, od_are_lane_edits, .func (PySem.W.fnOf "are_lane_edits" "are_lane_edits" (defArgs s_are_lane_edits) (defBody s_are_lane_edits) (defScope s_are_lane_edits) .none kV_are_lane_edits dc_are_lane_edits pm_are_lane_edits an_are_lane_edits cd_are_lane_edits ct_are_lane_edits), sl_are_lane_edits⟩) (c_are_lane_edits : PySem.W.codeIn K cd_are_lane_edits "are_lane_edits" = true) (k_are_lane_edits : PySem.W.keepIn K (.ref f_are_lane_edits) = true)
    {f_written : Addr} {od_written an_written : Option Addr} {sl_written : Array (Option Value)} {oc_written kV_written dc_written pm_written cd_written ct_written : Value}
    (a_written : PySem.W.nsIn K mainGlobals "written" = some (some (.ref f_written))) (l_written : K.lookup f_written = some ⟨oc_written, od_written, .func (PySem.W.fnOf "written" "written" (defArgs s_written) (defBody s_written) (defScope s_written) .none kV_written dc_written pm_written an_written cd_written ct_written), sl_written⟩) (c_written : PySem.W.codeIn K cd_written "written" = true) (k_written : PySem.W.keepIn K (.ref f_written) = true)
    {f_number_at : Addr} {od_number_at an_number_at : Option Addr} {sl_number_at : Array (Option Value)} {oc_number_at kV_number_at dc_number_at pm_number_at cd_number_at ct_number_at : Value}
    (a_number_at : PySem.W.nsIn K mainGlobals "number_at" = some (some (.ref f_number_at))) (l_number_at : K.lookup f_number_at = some ⟨oc_number_at, od_number_at, .func (PySem.W.fnOf "number_at" "number_at" (defArgs s_number_at) (defBody s_number_at) (defScope s_number_at) .none kV_number_at dc_number_at pm_number_at an_number_at cd_number_at ct_number_at), sl_number_at⟩) (c_number_at : PySem.W.codeIn K cd_number_at "number_at" = true) (k_number_at : PySem.W.keepIn K (.ref f_number_at) = true)
    {f_all_written : Addr} {od_all_written an_all_written : Option Addr} {sl_all_written : Array (Option Value)} {oc_all_written kV_all_written dc_all_written pm_all_written cd_all_written ct_all_written : Value}
    (a_all_written : PySem.W.nsIn K mainGlobals "all_written" = some (some (.ref f_all_written))) (l_all_written : K.lookup f_all_written = some ⟨oc_all_written, od_all_written, .func (PySem.W.fnOf "all_written" "all_written" (defArgs s_all_written) (defBody s_all_written) (defScope s_all_written) .none kV_all_written dc_all_written pm_all_written an_all_written cd_all_written ct_all_written), sl_all_written⟩) (c_all_written : PySem.W.codeIn K cd_all_written "all_written" = true) (k_all_written : PySem.W.keepIn K (.ref f_all_written) = true)
    {f_edit_numbers : Addr} {od_edit_numbers an_edit_numbers : Option Addr} {sl_edit_numbers : Array (Option Value)} {oc_edit_numbers kV_edit_numbers dc_edit_numbers pm_edit_numbers cd_edit_numbers ct_edit_numbers : Value}
    (a_edit_numbers : PySem.W.nsIn K mainGlobals "edit_numbers" = some (some (.ref f_edit_numbers))) (l_edit_numbers : K.lookup f_edit_numbers = some ⟨oc_edit_numbers, od_edit_numbers, .func (PySem.W.fnOf "edit_numbers" "edit_numbers" (defArgs s_edit_numbers) (defBody s_edit_numbers) (defScope s_edit_numbers) .none kV_edit_numbers dc_edit_numbers pm_edit_numbers an_edit_numbers cd_edit_numbers ct_edit_numbers), sl_edit_numbers⟩) (c_edit_numbers : PySem.W.codeIn K cd_edit_numbers "edit_numbers" = true) (k_edit_numbers : PySem.W.keepIn K (.ref f_edit_numbers) = true)
    {f_is_head_lane : Addr} {od_is_head_lane an_is_head_lane : Option Addr} {sl_is_head_lane : Array (Option Value)} {oc_is_head_lane kV_is_head_lane dc_is_head_lane pm_is_head_lane cd_is_head_lane ct_is_head_lane : Value}
    (a_is_head_lane : PySem.W.nsIn K mainGlobals "is_head_lane" = some (some (.ref f_is_head_lane))) (l_is_head_lane : K.lookup f_is_head_lane = some ⟨oc_is_head_lane, od_is_head_lane, .func (PySem.W.fnOf "is_head_lane" "is_head_lane" (defArgs s_is_head_lane) (defBody s_is_head_lane) (defScope s_is_head_lane) .none kV_is_head_lane dc_is_head_lane pm_is_head_lane an_is_head_lane cd_is_head_lane ct_is_head_lane), sl_is_head_lane⟩) (c_is_head_lane : PySem.W.codeIn K cd_is_head_lane "is_head_lane" = true) (k_is_head_lane : PySem.W.keepIn K (.ref f_is_head_lane) = true)
    {f_is_head : Addr} {od_is_head an_is_head : Option Addr} {sl_is_head : Array (Option Value)} {oc_is_head kV_is_head dc_is_head pm_is_head cd_is_head ct_is_head : Value}
    (a_is_head : PySem.W.nsIn K mainGlobals "is_head" = some (some (.ref f_is_head))) (l_is_head : K.lookup f_is_head = some ⟨oc_is_head, od_is_head, .func (PySem.W.fnOf "is_head" "is_head" (defArgs s_is_head) (defBody s_is_head) (defScope s_is_head) .none kV_is_head dc_is_head pm_is_head an_is_head cd_is_head ct_is_head), sl_is_head⟩) (c_is_head : PySem.W.codeIn K cd_is_head "is_head" = true) (k_is_head : PySem.W.keepIn K (.ref f_is_head) = true)
    {f_head_body : Addr} {od_head_body an_head_body : Option Addr} {sl_head_body : Array (Option Value)} {oc_head_body kV_head_body dc_head_body pm_head_body cd_head_body ct_head_body : Value}
    (a_head_body : PySem.W.nsIn K mainGlobals "head_body" = some (some (.ref f_head_body))) (l_head_body : K.lookup f_head_body = some ⟨oc_head_body, od_head_body, .func (PySem.W.fnOf "head_body" "head_body" (defArgs s_head_body) (defBody s_head_body) (defScope s_head_body) .none kV_head_body dc_head_body pm_head_body an_head_body cd_head_body ct_head_body), sl_head_body⟩) (c_head_body : PySem.W.codeIn K cd_head_body "head_body" = true) (k_head_body : PySem.W.keepIn K (.ref f_head_body) = true)
    {f_edit_in : Addr} {od_edit_in an_edit_in : Option Addr} {sl_edit_in : Array (Option Value)} {oc_edit_in kV_edit_in dc_edit_in pm_edit_in cd_edit_in ct_edit_in : Value}
    (a_edit_in : PySem.W.nsIn K mainGlobals "edit_in" = some (some (.ref f_edit_in))) (l_edit_in : K.lookup f_edit_in = some ⟨oc_edit_in, od_edit_in, .func (PySem.W.fnOf "edit_in" "edit_in" (defArgs s_edit_in) (defBody s_edit_in) (defScope s_edit_in) .none kV_edit_in dc_edit_in pm_edit_in an_edit_in cd_edit_in ct_edit_in), sl_edit_in⟩) (c_edit_in : PySem.W.codeIn K cd_edit_in "edit_in" = true) (k_edit_in : PySem.W.keepIn K (.ref f_edit_in) = true)
    {f_lane_in : Addr} {od_lane_in an_lane_in : Option Addr} {sl_lane_in : Array (Option Value)} {oc_lane_in kV_lane_in dc_lane_in pm_lane_in cd_lane_in ct_lane_in : Value}
    (a_lane_in : PySem.W.nsIn K mainGlobals "lane_in" = some (some (.ref f_lane_in))) (l_lane_in : K.lookup f_lane_in = some ⟨oc_lane_in, od_lane_in, .func (PySem.W.fnOf "lane_in" "lane_in" (defArgs s_lane_in) (defBody s_lane_in) (defScope s_lane_in) .none kV_lane_in dc_lane_in pm_lane_in an_lane_in cd_lane_in ct_lane_in), sl_lane_in⟩) (c_lane_in : PySem.W.codeIn K cd_lane_in "lane_in" = true) (k_lane_in : PySem.W.keepIn K (.ref f_lane_in) = true)
    {f_head_in : Addr} {od_head_in an_head_in : Option Addr} {sl_head_in : Array (Option Value)} {oc_head_in kV_head_in dc_head_in pm_head_in cd_head_in ct_head_in : Value}
    (a_head_in : PySem.W.nsIn K mainGlobals "head_in" = some (some (.ref f_head_in))) (l_head_in : K.lookup f_head_in = some ⟨oc_head_in, od_head_in, .func (PySem.W.fnOf "head_in" "head_in" (defArgs s_head_in) (defBody s_head_in) (defScope s_head_in) .none kV_head_in dc_head_in pm_head_in an_head_in cd_head_in ct_head_in), sl_head_in⟩) (c_head_in : PySem.W.codeIn K cd_head_in "head_in" = true) (k_head_in : PySem.W.keepIn K (.ref f_head_in) = true)
    {f_read_as : Addr} {od_read_as an_read_as : Option Addr} {sl_read_as : Array (Option Value)} {oc_read_as kV_read_as dc_read_as pm_read_as cd_read_as ct_read_as : Value}
    (a_read_as : PySem.W.nsIn K mainGlobals "read_as" = some (some (.ref f_read_as))) (l_read_as : K.lookup f_read_as = some ⟨oc_read_as, od_read_as, .func (PySem.W.fnOf "read_as" "read_as" (defArgs s_read_as__head_in__head_body) (defBody s_read_as__head_in__head_body) (defScope s_read_as__head_in__head_body) .none kV_read_as dc_read_as pm_read_as an_read_as cd_read_as ct_read_as), sl_read_as⟩) (c_read_as : PySem.W.codeIn K cd_read_as "read_as" = true) (k_read_as : PySem.W.keepIn K (.ref f_read_as) = true)
    {f_read_head : Addr} {od_read_head an_read_head : Option Addr} {sl_read_head : Array (Option Value)} {oc_read_head kV_read_head dc_read_head pm_read_head cd_read_head ct_read_head : Value}
    (a_read_head : PySem.W.nsIn K mainGlobals "read_head" = some (some (.ref f_read_head))) (l_read_head : K.lookup f_read_head = some ⟨oc_read_head, od_read_head, .func (PySem.W.fnOf "read_head" "read_head" (defArgs s_read_head) (defBody s_read_head) (defScope s_read_head) .none kV_read_head dc_read_head pm_read_head an_read_head cd_read_head ct_read_head), sl_read_head⟩) (c_read_head : PySem.W.codeIn K cd_read_head "read_head" = true) (k_read_head : PySem.W.keepIn K (.ref f_read_head) = true)
    {f__law_digit : Addr} {od__law_digit an__law_digit : Option Addr} {sl__law_digit : Array (Option Value)} {oc__law_digit kV__law_digit dc__law_digit pm__law_digit cd__law_digit ct__law_digit : Value}
    (a__law_digit : PySem.W.nsIn K mainGlobals "_law_digit" = some (some (.ref f__law_digit))) (l__law_digit : K.lookup f__law_digit = some ⟨oc__law_digit, od__law_digit, .func (PySem.W.fnOf "_law_digit" "_law_digit" (defArgs s__law_digit) (defBody s__law_digit) (defScope s__law_digit) .none kV__law_digit dc__law_digit pm__law_digit an__law_digit cd__law_digit ct__law_digit), sl__law_digit⟩) (c__law_digit : PySem.W.codeIn K cd__law_digit "_law_digit" = true) (k__law_digit : PySem.W.keepIn K (.ref f__law_digit) = true)
    {f__law_shared : Addr} {od__law_shared an__law_shared : Option Addr} {sl__law_shared : Array (Option Value)} {oc__law_shared kV__law_shared dc__law_shared pm__law_shared cd__law_shared ct__law_shared : Value}
    (a__law_shared : PySem.W.nsIn K mainGlobals "_law_shared" = some (some (.ref f__law_shared))) (l__law_shared : K.lookup f__law_shared = some ⟨oc__law_shared, od__law_shared, .func (PySem.W.fnOf "_law_shared" "_law_shared" (defArgs s__law_shared) (defBody s__law_shared) (defScope s__law_shared) .none kV__law_shared dc__law_shared pm__law_shared an__law_shared cd__law_shared ct__law_shared), sl__law_shared⟩) (c__law_shared : PySem.W.codeIn K cd__law_shared "_law_shared" = true) (k__law_shared : PySem.W.keepIn K (.ref f__law_shared) = true)
    {f__law_lowest : Addr} {od__law_lowest an__law_lowest : Option Addr} {sl__law_lowest : Array (Option Value)} {oc__law_lowest kV__law_lowest dc__law_lowest pm__law_lowest cd__law_lowest ct__law_lowest : Value}
    (a__law_lowest : PySem.W.nsIn K mainGlobals "_law_lowest" = some (some (.ref f__law_lowest))) (l__law_lowest : K.lookup f__law_lowest = some ⟨oc__law_lowest, od__law_lowest, .func (PySem.W.fnOf "_law_lowest" "_law_lowest" (defArgs s__law_lowest) (defBody s__law_lowest) (defScope s__law_lowest) .none kV__law_lowest dc__law_lowest pm__law_lowest an__law_lowest cd__law_lowest ct__law_lowest), sl__law_lowest⟩) (c__law_lowest : PySem.W.codeIn K cd__law_lowest "_law_lowest" = true) (k__law_lowest : PySem.W.keepIn K (.ref f__law_lowest) = true)
    {f__law_figures : Addr} {od__law_figures an__law_figures : Option Addr} {sl__law_figures : Array (Option Value)} {oc__law_figures kV__law_figures dc__law_figures pm__law_figures cd__law_figures ct__law_figures : Value}
    (a__law_figures : PySem.W.nsIn K mainGlobals "_law_figures" = some (some (.ref f__law_figures))) (l__law_figures : K.lookup f__law_figures = some ⟨oc__law_figures, od__law_figures, .func (PySem.W.fnOf "_law_figures" "_law_figures" (defArgs s__law_figures) (defBody s__law_figures) (defScope s__law_figures) .none kV__law_figures dc__law_figures pm__law_figures an__law_figures cd__law_figures ct__law_figures), sl__law_figures⟩) (c__law_figures : PySem.W.codeIn K cd__law_figures "_law_figures" = true) (k__law_figures : PySem.W.keepIn K (.ref f__law_figures) = true)
    {f__law_edit_numbers : Addr} {od__law_edit_numbers an__law_edit_numbers : Option Addr} {sl__law_edit_numbers : Array (Option Value)} {oc__law_edit_numbers kV__law_edit_numbers dc__law_edit_numbers pm__law_edit_numbers cd__law_edit_numbers ct__law_edit_numbers : Value}
    (a__law_edit_numbers : PySem.W.nsIn K mainGlobals "_law_edit_numbers" = some (some (.ref f__law_edit_numbers))) (l__law_edit_numbers : K.lookup f__law_edit_numbers = some ⟨oc__law_edit_numbers, od__law_edit_numbers, .func (PySem.W.fnOf "_law_edit_numbers" "_law_edit_numbers" (defArgs s__law_edit_numbers) (defBody s__law_edit_numbers) (defScope s__law_edit_numbers) .none kV__law_edit_numbers dc__law_edit_numbers pm__law_edit_numbers an__law_edit_numbers cd__law_edit_numbers ct__law_edit_numbers), sl__law_edit_numbers⟩) (c__law_edit_numbers : PySem.W.codeIn K cd__law_edit_numbers "_law_edit_numbers" = true) (k__law_edit_numbers : PySem.W.keepIn K (.ref f__law_edit_numbers) = true)
    {f__law_head_numbers : Addr} {od__law_head_numbers an__law_head_numbers : Option Addr} {sl__law_head_numbers : Array (Option Value)} {oc__law_head_numbers kV__law_head_numbers dc__law_head_numbers pm__law_head_numbers cd__law_head_numbers ct__law_head_numbers : Value}
    (a__law_head_numbers : PySem.W.nsIn K mainGlobals "_law_head_numbers" = some (some (.ref f__law_head_numbers))) (l__law_head_numbers : K.lookup f__law_head_numbers = some ⟨oc__law_head_numbers, od__law_head_numbers, .func (PySem.W.fnOf "_law_head_numbers" "_law_head_numbers" (defArgs s__law_head_numbers) (defBody s__law_head_numbers) (defScope s__law_head_numbers) .none kV__law_head_numbers dc__law_head_numbers pm__law_head_numbers an__law_head_numbers cd__law_head_numbers ct__law_head_numbers), sl__law_head_numbers⟩) (c__law_head_numbers : PySem.W.codeIn K cd__law_head_numbers "_law_head_numbers" = true) (k__law_head_numbers : PySem.W.keepIn K (.ref f__law_head_numbers) = true)
    {f__law_all_figures : Addr} {od__law_all_figures an__law_all_figures : Option Addr} {sl__law_all_figures : Array (Option Value)} {oc__law_all_figures kV__law_all_figures dc__law_all_figures pm__law_all_figures cd__law_all_figures ct__law_all_figures : Value}
    (a__law_all_figures : PySem.W.nsIn K mainGlobals "_law_all_figures" = some (some (.ref f__law_all_figures))) (l__law_all_figures : K.lookup f__law_all_figures = some ⟨oc__law_all_figures, od__law_all_figures, .func (PySem.W.fnOf "_law_all_figures" "_law_all_figures" (defArgs s__law_all_figures) (defBody s__law_all_figures) (defScope s__law_all_figures) .none kV__law_all_figures dc__law_all_figures pm__law_all_figures an__law_all_figures cd__law_all_figures ct__law_all_figures), sl__law_all_figures⟩) (c__law_all_figures : PySem.W.codeIn K cd__law_all_figures "_law_all_figures" = true) (k__law_all_figures : PySem.W.keepIn K (.ref f__law_all_figures) = true)
    {f__law_refused : Addr} {od__law_refused an__law_refused : Option Addr} {sl__law_refused : Array (Option Value)} {oc__law_refused kV__law_refused dc__law_refused pm__law_refused cd__law_refused ct__law_refused : Value}
    (a__law_refused : PySem.W.nsIn K mainGlobals "_law_refused" = some (some (.ref f__law_refused))) (l__law_refused : K.lookup f__law_refused = some ⟨oc__law_refused, od__law_refused, .func (PySem.W.fnOf "_law_refused" "_law_refused" (defArgs s__law_refused__read_head) (defBody s__law_refused__read_head) (defScope s__law_refused__read_head) .none kV__law_refused dc__law_refused pm__law_refused an__law_refused cd__law_refused ct__law_refused), sl__law_refused⟩) (c__law_refused : PySem.W.codeIn K cd__law_refused "_law_refused" = true) (k__law_refused : PySem.W.keepIn K (.ref f__law_refused) = true)
    {f__law_moment : Addr} {od__law_moment an__law_moment : Option Addr} {sl__law_moment : Array (Option Value)} {oc__law_moment kV__law_moment dc__law_moment pm__law_moment cd__law_moment ct__law_moment : Value}
    (a__law_moment : PySem.W.nsIn K mainGlobals "_law_moment" = some (some (.ref f__law_moment))) (l__law_moment : K.lookup f__law_moment = some ⟨oc__law_moment, od__law_moment, .func (PySem.W.fnOf "_law_moment" "_law_moment" (defArgs s__law_moment) (defBody s__law_moment) (defScope s__law_moment) .none kV__law_moment dc__law_moment pm__law_moment an__law_moment cd__law_moment ct__law_moment), sl__law_moment⟩) (c__law_moment : PySem.W.codeIn K cd__law_moment "_law_moment" = true) (k__law_moment : PySem.W.keepIn K (.ref f__law_moment) = true)
    {f__law_edit : Addr} {od__law_edit an__law_edit : Option Addr} {sl__law_edit : Array (Option Value)} {oc__law_edit kV__law_edit dc__law_edit pm__law_edit cd__law_edit ct__law_edit : Value}
    (a__law_edit : PySem.W.nsIn K mainGlobals "_law_edit" = some (some (.ref f__law_edit))) (l__law_edit : K.lookup f__law_edit = some ⟨oc__law_edit, od__law_edit, .func (PySem.W.fnOf "_law_edit" "_law_edit" (defArgs s__law_edit) (defBody s__law_edit) (defScope s__law_edit) .none kV__law_edit dc__law_edit pm__law_edit an__law_edit cd__law_edit ct__law_edit), sl__law_edit⟩) (c__law_edit : PySem.W.codeIn K cd__law_edit "_law_edit" = true) (k__law_edit : PySem.W.keepIn K (.ref f__law_edit) = true)
    {f__law_head : Addr} {od__law_head an__law_head : Option Addr} {sl__law_head : Array (Option Value)} {oc__law_head kV__law_head dc__law_head pm__law_head cd__law_head ct__law_head : Value}
    (a__law_head : PySem.W.nsIn K mainGlobals "_law_head" = some (some (.ref f__law_head))) (l__law_head : K.lookup f__law_head = some ⟨oc__law_head, od__law_head, .func (PySem.W.fnOf "_law_head" "_law_head" (defArgs s__law_head) (defBody s__law_head) (defScope s__law_head) .none kV__law_head dc__law_head pm__law_head an__law_head cd__law_head ct__law_head), sl__law_head⟩) (c__law_head : PySem.W.codeIn K cd__law_head "_law_head" = true) (k__law_head : PySem.W.keepIn K (.ref f__law_head) = true)
    {f__law_no_edit : Addr} {od__law_no_edit an__law_no_edit : Option Addr} {sl__law_no_edit : Array (Option Value)} {oc__law_no_edit kV__law_no_edit dc__law_no_edit pm__law_no_edit cd__law_no_edit ct__law_no_edit : Value}
    (a__law_no_edit : PySem.W.nsIn K mainGlobals "_law_no_edit" = some (some (.ref f__law_no_edit))) (l__law_no_edit : K.lookup f__law_no_edit = some ⟨oc__law_no_edit, od__law_no_edit, .func (PySem.W.fnOf "_law_no_edit" "_law_no_edit" (defArgs s__law_no_edit) (defBody s__law_no_edit) (defScope s__law_no_edit) .none kV__law_no_edit dc__law_no_edit pm__law_no_edit an__law_no_edit cd__law_no_edit ct__law_no_edit), sl__law_no_edit⟩) (c__law_no_edit : PySem.W.codeIn K cd__law_no_edit "_law_no_edit" = true) (k__law_no_edit : PySem.W.keepIn K (.ref f__law_no_edit) = true)
    {f__law_no_lane : Addr} {od__law_no_lane an__law_no_lane : Option Addr} {sl__law_no_lane : Array (Option Value)} {oc__law_no_lane kV__law_no_lane dc__law_no_lane pm__law_no_lane cd__law_no_lane ct__law_no_lane : Value}
    (a__law_no_lane : PySem.W.nsIn K mainGlobals "_law_no_lane" = some (some (.ref f__law_no_lane))) (l__law_no_lane : K.lookup f__law_no_lane = some ⟨oc__law_no_lane, od__law_no_lane, .func (PySem.W.fnOf "_law_no_lane" "_law_no_lane" (defArgs s__law_no_lane) (defBody s__law_no_lane) (defScope s__law_no_lane) .none kV__law_no_lane dc__law_no_lane pm__law_no_lane an__law_no_lane cd__law_no_lane ct__law_no_lane), sl__law_no_lane⟩) (c__law_no_lane : PySem.W.codeIn K cd__law_no_lane "_law_no_lane" = true) (k__law_no_lane : PySem.W.keepIn K (.ref f__law_no_lane) = true)
    {f__law_no_head : Addr} {od__law_no_head an__law_no_head : Option Addr} {sl__law_no_head : Array (Option Value)} {oc__law_no_head kV__law_no_head dc__law_no_head pm__law_no_head cd__law_no_head ct__law_no_head : Value}
    (a__law_no_head : PySem.W.nsIn K mainGlobals "_law_no_head" = some (some (.ref f__law_no_head))) (l__law_no_head : K.lookup f__law_no_head = some ⟨oc__law_no_head, od__law_no_head, .func (PySem.W.fnOf "_law_no_head" "_law_no_head" (defArgs s__law_no_head) (defBody s__law_no_head) (defScope s__law_no_head) .none kV__law_no_head dc__law_no_head pm__law_no_head an__law_no_head cd__law_no_head ct__law_no_head), sl__law_no_head⟩) (c__law_no_head : PySem.W.codeIn K cd__law_no_head "_law_no_head" = true) (k__law_no_head : PySem.W.keepIn K (.ref f__law_no_head) = true)
    {f__law_kept : Addr} {od__law_kept an__law_kept : Option Addr} {sl__law_kept : Array (Option Value)} {oc__law_kept kV__law_kept dc__law_kept pm__law_kept cd__law_kept ct__law_kept : Value}
    (a__law_kept : PySem.W.nsIn K mainGlobals "_law_kept" = some (some (.ref f__law_kept))) (l__law_kept : K.lookup f__law_kept = some ⟨oc__law_kept, od__law_kept, .func (PySem.W.fnOf "_law_kept" "_law_kept" (defArgs s__law_kept) (defBody s__law_kept) (defScope s__law_kept) .none kV__law_kept dc__law_kept pm__law_kept an__law_kept cd__law_kept ct__law_kept), sl__law_kept⟩) (c__law_kept : PySem.W.codeIn K cd__law_kept "_law_kept" = true) (k__law_kept : PySem.W.keepIn K (.ref f__law_kept) = true)
    {f__law_kinds : Addr} {od__law_kinds an__law_kinds : Option Addr} {sl__law_kinds : Array (Option Value)} {oc__law_kinds kV__law_kinds dc__law_kinds pm__law_kinds cd__law_kinds ct__law_kinds : Value}
    (a__law_kinds : PySem.W.nsIn K mainGlobals "_law_kinds" = some (some (.ref f__law_kinds))) (l__law_kinds : K.lookup f__law_kinds = some ⟨oc__law_kinds, od__law_kinds, .func (PySem.W.fnOf "_law_kinds" "_law_kinds" (defArgs s__law_kinds) (defBody s__law_kinds) (defScope s__law_kinds) .none kV__law_kinds dc__law_kinds pm__law_kinds an__law_kinds cd__law_kinds ct__law_kinds), sl__law_kinds⟩) (c__law_kinds : PySem.W.codeIn K cd__law_kinds "_law_kinds" = true) (k__law_kinds : PySem.W.keepIn K (.ref f__law_kinds) = true)
    {f_law : Addr} {od_law an_law : Option Addr} {sl_law : Array (Option Value)} {oc_law kV_law dc_law pm_law cd_law ct_law : Value}
    (a_law : PySem.W.nsIn K mainGlobals "law" = some (some (.ref f_law))) (l_law : K.lookup f_law = some ⟨oc_law, od_law, .func (PySem.W.fnOf "law" "law" (defArgs s_law) (defBody s_law) (defScope s_law) .none kV_law dc_law pm_law an_law cd_law ct_law), sl_law⟩) (c_law : PySem.W.codeIn K cd_law "law" = true) (k_law : PySem.W.keepIn K (.ref f_law) = true)
    {f_Numbers____init__ : Addr} {od_Numbers____init__ an_Numbers____init__ : Option Addr} {sl_Numbers____init__ : Array (Option Value)} {oc_Numbers____init__ kV_Numbers____init__ dc_Numbers____init__ pm_Numbers____init__ cd_Numbers____init__ ct_Numbers____init__ : Value}
    (a_Numbers____init__ : PySem.W.findIn K (.ref C_Numbers) "__init__" = some (some (.ref f_Numbers____init__))) (fn_Numbers____init__ : PySem.W.isFn K (.ref f_Numbers____init__) = true) (l_Numbers____init__ : K.lookup f_Numbers____init__ = some ⟨oc_Numbers____init__, od_Numbers____init__, .func (PySem.W.fnOf "__init__" "Numbers.__init__" (defArgs s_Numbers____init__) (defBody s_Numbers____init__) (defScope s_Numbers____init__) .none kV_Numbers____init__ dc_Numbers____init__ pm_Numbers____init__ an_Numbers____init__ cd_Numbers____init__ ct_Numbers____init__), sl_Numbers____init__⟩) (c_Numbers____init__ : PySem.W.codeIn K cd_Numbers____init__ "Numbers.__init__" = true) (k_Numbers____init__ : PySem.W.keepIn K (.ref f_Numbers____init__) = true)
    {f_Numbers__number : Addr} {od_Numbers__number an_Numbers__number : Option Addr} {sl_Numbers__number : Array (Option Value)} {oc_Numbers__number kV_Numbers__number dc_Numbers__number pm_Numbers__number cd_Numbers__number ct_Numbers__number : Value}
    (a_Numbers__number : PySem.W.findIn K (.ref C_Numbers) "number" = some (some (.ref f_Numbers__number))) (fn_Numbers__number : PySem.W.isFn K (.ref f_Numbers__number) = true) (l_Numbers__number : K.lookup f_Numbers__number = some ⟨oc_Numbers__number, od_Numbers__number, .func (PySem.W.fnOf "number" "Numbers.number" (defArgs s_Numbers__number) (defBody s_Numbers__number) (defScope s_Numbers__number) .none kV_Numbers__number dc_Numbers__number pm_Numbers__number an_Numbers__number cd_Numbers__number ct_Numbers__number), sl_Numbers__number⟩) (c_Numbers__number : PySem.W.codeIn K cd_Numbers__number "Numbers.number" = true) (k_Numbers__number : PySem.W.keepIn K (.ref f_Numbers__number) = true)
    {f_Numbers__pair : Addr} {od_Numbers__pair an_Numbers__pair : Option Addr} {sl_Numbers__pair : Array (Option Value)} {oc_Numbers__pair kV_Numbers__pair dc_Numbers__pair pm_Numbers__pair cd_Numbers__pair ct_Numbers__pair : Value}
    (a_Numbers__pair : PySem.W.findIn K (.ref C_Numbers) "pair" = some (some (.ref f_Numbers__pair))) (fn_Numbers__pair : PySem.W.isFn K (.ref f_Numbers__pair) = true) (l_Numbers__pair : K.lookup f_Numbers__pair = some ⟨oc_Numbers__pair, od_Numbers__pair, .func (PySem.W.fnOf "pair" "Numbers.pair" (defArgs s_Numbers__pair) (defBody s_Numbers__pair) (defScope s_Numbers__pair) .none kV_Numbers__pair dc_Numbers__pair pm_Numbers__pair an_Numbers__pair cd_Numbers__pair ct_Numbers__pair), sl_Numbers__pair⟩) (c_Numbers__pair : PySem.W.codeIn K cd_Numbers__pair "Numbers.pair" = true) (k_Numbers__pair : PySem.W.keepIn K (.ref f_Numbers__pair) = true)
    {C_NoNumber : Addr}
    (xca_NoNumber : PySem.W.nsIn K mainGlobals "NoNumber" = some (some (.ref C_NoNumber)))
    (xchg_NoNumber : PySem.W.findIn K (.ref C_NoNumber) "__getattribute__" = some (some (.builtin "BaseException.__getattribute__")))
    (xchk_NoNumber : PySem.W.findIn K (.ref C_NoNumber) "__getattr__" = some none)
    (xchs_NoNumber : PySem.W.subIn K (.ref C_NoNumber) (.type "BaseException") = some true)
    (xchd_NoNumber : PySem.W.hasDictIn K C_NoNumber = true)
    (xcha_NoNumber : PySem.W.findIn K (.ref C_NoNumber) "__class__" = some (some (.builtin "object.__class__")))
    (xchm_NoNumber : PySem.W.mroIn K C_NoNumber (.type "object") = some true)
    (xcty_NoNumber : PySem.W.typeIn K (.ref C_NoNumber) = some (.type "type"))
    (xckp_NoNumber : PySem.W.keepIn K (.ref C_NoNumber) = true)
    (xcve_NoNumber : PySem.W.subIn K (.ref C_NoNumber) (.type "ValueError") = some true)
    (xcis_NoNumber : PySem.W.isClsIn K C_NoNumber = true)
    (xcself_NoNumber : PySem.W.subIn K (.ref C_NoNumber) (.ref C_NoNumber) = some true)
    (xcex_NoNumber : PySem.W.excIn K C_NoNumber [.type "ValueError", .type "Exception", .type "BaseException", .type "object"] "ValueError.__new__" = true)
    {C_NoBody : Addr}
    (xca_NoBody : PySem.W.nsIn K mainGlobals "NoBody" = some (some (.ref C_NoBody)))
    (xchg_NoBody : PySem.W.findIn K (.ref C_NoBody) "__getattribute__" = some (some (.builtin "BaseException.__getattribute__")))
    (xchk_NoBody : PySem.W.findIn K (.ref C_NoBody) "__getattr__" = some none)
    (xchs_NoBody : PySem.W.subIn K (.ref C_NoBody) (.type "BaseException") = some true)
    (xchd_NoBody : PySem.W.hasDictIn K C_NoBody = true)
    (xcha_NoBody : PySem.W.findIn K (.ref C_NoBody) "__class__" = some (some (.builtin "object.__class__")))
    (xchm_NoBody : PySem.W.mroIn K C_NoBody (.type "object") = some true)
    (xcty_NoBody : PySem.W.typeIn K (.ref C_NoBody) = some (.type "type"))
    (xckp_NoBody : PySem.W.keepIn K (.ref C_NoBody) = true)
    (xcve_NoBody : PySem.W.subIn K (.ref C_NoBody) (.type "ValueError") = some true)
    (xcis_NoBody : PySem.W.isClsIn K C_NoBody = true)
    (xcself_NoBody : PySem.W.subIn K (.ref C_NoBody) (.ref C_NoBody) = some true)
    (xcex_NoBody : PySem.W.excIn K C_NoBody [.type "ValueError", .type "Exception", .type "BaseException", .type "object"] "ValueError.__new__" = true)
    {C_ScrollError : Addr}
    (xca_ScrollError : PySem.W.nsIn K mainGlobals "ScrollError" = some (some (.ref C_ScrollError)))
    (xchg_ScrollError : PySem.W.findIn K (.ref C_ScrollError) "__getattribute__" = some (some (.builtin "BaseException.__getattribute__")))
    (xchk_ScrollError : PySem.W.findIn K (.ref C_ScrollError) "__getattr__" = some none)
    (xchs_ScrollError : PySem.W.subIn K (.ref C_ScrollError) (.type "BaseException") = some true)
    (xchd_ScrollError : PySem.W.hasDictIn K C_ScrollError = true)
    (xcha_ScrollError : PySem.W.findIn K (.ref C_ScrollError) "__class__" = some (some (.builtin "object.__class__")))
    (xchm_ScrollError : PySem.W.mroIn K C_ScrollError (.type "object") = some true)
    (xcty_ScrollError : PySem.W.typeIn K (.ref C_ScrollError) = some (.type "type"))
    (xckp_ScrollError : PySem.W.keepIn K (.ref C_ScrollError) = true)
    (xcve_ScrollError : PySem.W.subIn K (.ref C_ScrollError) (.type "ValueError") = some true)
    (xcis_ScrollError : PySem.W.isClsIn K C_ScrollError = true)
    (xcself_ScrollError : PySem.W.subIn K (.ref C_ScrollError) (.ref C_ScrollError) = some true)
    (xcex_ScrollError : PySem.W.excIn K C_ScrollError [.type "ValueError", .type "Exception", .type "BaseException", .type "object"] "ValueError.__new__" = true)
    {C_NoBytes : Addr}
    (xca_NoBytes : PySem.W.nsIn K mainGlobals "NoBytes" = some (some (.ref C_NoBytes)))
    (xchg_NoBytes : PySem.W.findIn K (.ref C_NoBytes) "__getattribute__" = some (some (.builtin "BaseException.__getattribute__")))
    (xchk_NoBytes : PySem.W.findIn K (.ref C_NoBytes) "__getattr__" = some none)
    (xchs_NoBytes : PySem.W.subIn K (.ref C_NoBytes) (.type "BaseException") = some true)
    (xchd_NoBytes : PySem.W.hasDictIn K C_NoBytes = true)
    (xcha_NoBytes : PySem.W.findIn K (.ref C_NoBytes) "__class__" = some (some (.builtin "object.__class__")))
    (xchm_NoBytes : PySem.W.mroIn K C_NoBytes (.type "object") = some true)
    (xcty_NoBytes : PySem.W.typeIn K (.ref C_NoBytes) = some (.type "type"))
    (xckp_NoBytes : PySem.W.keepIn K (.ref C_NoBytes) = true)
    (xcve_NoBytes : PySem.W.subIn K (.ref C_NoBytes) (.type "ValueError") = some true)
    (xcis_NoBytes : PySem.W.isClsIn K C_NoBytes = true)
    (xcself_NoBytes : PySem.W.subIn K (.ref C_NoBytes) (.ref C_NoBytes) = some true)
    (xcex_NoBytes : PySem.W.excIn K C_NoBytes [.type "ValueError", .type "Exception", .type "BaseException", .type "object"] "ValueError.__new__" = true)
    {C_NoLeaf : Addr}
    (xca_NoLeaf : PySem.W.nsIn K mainGlobals "NoLeaf" = some (some (.ref C_NoLeaf)))
    (xchg_NoLeaf : PySem.W.findIn K (.ref C_NoLeaf) "__getattribute__" = some (some (.builtin "BaseException.__getattribute__")))
    (xchk_NoLeaf : PySem.W.findIn K (.ref C_NoLeaf) "__getattr__" = some none)
    (xchs_NoLeaf : PySem.W.subIn K (.ref C_NoLeaf) (.type "BaseException") = some true)
    (xchd_NoLeaf : PySem.W.hasDictIn K C_NoLeaf = true)
    (xcha_NoLeaf : PySem.W.findIn K (.ref C_NoLeaf) "__class__" = some (some (.builtin "object.__class__")))
    (xchm_NoLeaf : PySem.W.mroIn K C_NoLeaf (.type "object") = some true)
    (xcty_NoLeaf : PySem.W.typeIn K (.ref C_NoLeaf) = some (.type "type"))
    (xckp_NoLeaf : PySem.W.keepIn K (.ref C_NoLeaf) = true)
    (xcve_NoLeaf : PySem.W.subIn K (.ref C_NoLeaf) (.type "ValueError") = some true)
    (xcis_NoLeaf : PySem.W.isClsIn K C_NoLeaf = true)
    (xcself_NoLeaf : PySem.W.subIn K (.ref C_NoLeaf) (.ref C_NoLeaf) = some true)
    (xcex_NoLeaf : PySem.W.excIn K C_NoLeaf [.type "ValueError", .type "Exception", .type "BaseException", .type "object"] "ValueError.__new__" = true)
    {C_NOUGHT : Addr} {dC_NOUGHT : Option Addr} {nC_NOUGHT : Nat} {sC_NOUGHT : Array (Option Value)} {tk_NOUGHT_0 tk_NOUGHT_1 : Tok}
    (cg_NOUGHT : PySem.W.nsIn K mainGlobals "NOUGHT" = some (some (.ref C_NOUGHT))) (cl_NOUGHT : K.lookup C_NOUGHT = some ⟨.type "tuple", dC_NOUGHT, .seq #[.int 0 tk_NOUGHT_0, .int 1 tk_NOUGHT_1] nC_NOUGHT, sC_NOUGHT⟩)
    {tkC_GREATEST : Tok} (cg_GREATEST : PySem.W.nsIn K mainGlobals "GREATEST" = some (some (.int 1000000000000000000000000000000000000000000000000000000000000 tkC_GREATEST)))
    {tkC_HEAD : Tok} (cg_HEAD : PySem.W.nsIn K mainGlobals "HEAD" = some (some (.int 1 tkC_HEAD)))
    {tkC_PIECE : Tok} (cg_PIECE : PySem.W.nsIn K mainGlobals "PIECE" = some (some (.int 2 tkC_PIECE)))
    {tkC_INDEX : Tok} (cg_INDEX : PySem.W.nsIn K mainGlobals "INDEX" = some (some (.int 3 tkC_INDEX)))
    (p_NoBody_NoBody : PySem.W.subIn K (.ref C_NoBody) (.ref C_NoBody) = some true)
    (p_NoBody_NoBytes : PySem.W.subIn K (.ref C_NoBody) (.ref C_NoBytes) = some false)
    (p_NoBody_NoLeaf : PySem.W.subIn K (.ref C_NoBody) (.ref C_NoLeaf) = some false)
    (p_NoBody_NoNumber : PySem.W.subIn K (.ref C_NoBody) (.ref C_NoNumber) = some false)
    (xhn : PySem.W.specialIn K (.builtin "object.__class__") "__get__" = some (some (.builtin "getset_descriptor.__get__"))) (xht : PySem.W.takesIn K (.builtin "object.__class__") = some true)
    (z_abs : PySem.W.nsIn K mainGlobals "abs" = some none)
    (z_isinstance : PySem.W.nsIn K mainGlobals "isinstance" = some none)
    (z_int : PySem.W.nsIn K mainGlobals "int" = some none)
    (z_bool : PySem.W.nsIn K mainGlobals "bool" = some none)
    (z_tuple : PySem.W.nsIn K mainGlobals "tuple" = some none)
    (z_len : PySem.W.nsIn K mainGlobals "len" = some none)
    (z_list : PySem.W.nsIn K mainGlobals "list" = some none)
    (z_all : PySem.W.nsIn K mainGlobals "all" = some none)
    (z_max : PySem.W.nsIn K mainGlobals "max" = some none)
    (z_range : PySem.W.nsIn K mainGlobals "range" = some none)
    : ∃ fd : FuncData, (∀ (s : Shared) (v : Value), BindsTo s fd ⟨[v], []⟩ [("_law_script", v)]) ∧ ∀ base : Heap, K.In base → base.Ns mainGlobals mg → FnOk l.prog w K mg base CX0 13 fa fd ["_law_script"] (spTop K) := by
  have e := hfa.symm.trans (PySem.W.mg_of X G a_law)
  cases e
  have F_divisor := fun_mk (st := s_divisor) l_divisor c_divisor k_divisor
  have b_divisor := F_divisor.binds (ps := ["one", "other"]) fun _ _ _ _ _ _ us hl => match us, hl with | [_, _], _ => rfl
  have g_divisor := PySem.W.mg_of X G a_divisor
  have F_is_number := fun_mk (st := s_is_number) l_is_number c_is_number k_is_number
  have b_is_number := F_is_number.binds (ps := ["thing"]) fun _ _ _ _ _ _ us hl => match us, hl with | [_], _ => rfl
  have g_is_number := PySem.W.mg_of X G a_is_number
  have F_is_fraction := fun_mk (st := s_is_fraction) l_is_fraction c_is_fraction k_is_fraction
  have b_is_fraction := F_is_fraction.binds (ps := ["thing"]) fun _ _ _ _ _ _ us hl => match us, hl with | [_], _ => rfl
  have g_is_fraction := PySem.W.mg_of X G a_is_fraction
  have F_is_moment := fun_mk (st := s_is_moment) l_is_moment c_is_moment k_is_moment
  have b_is_moment := F_is_moment.binds (ps := ["thing"]) fun _ _ _ _ _ _ us hl => match us, hl with | [_], _ => rfl
  have g_is_moment := PySem.W.mg_of X G a_is_moment
  have F_less := fun_mk (st := s_less) l_less c_less k_less
  have b_less := F_less.binds (ps := ["one", "other"]) fun _ _ _ _ _ _ us hl => match us, hl with | [_, _], _ => rfl
  have g_less := PySem.W.mg_of X G a_less
  have F_is_edit := fun_mk (st := s_is_edit) l_is_edit c_is_edit k_is_edit
  have b_is_edit := F_is_edit.binds (ps := ["thing"]) fun _ _ _ _ _ _ us hl => match us, hl with | [_], _ => rfl
  have g_is_edit := PySem.W.mg_of X G a_is_edit
  have F_is_edits := fun_mk (st := s_is_edits) l_is_edits c_is_edits k_is_edits
  have b_is_edits := F_is_edits.binds (ps := ["thing"]) fun _ _ _ _ _ _ us hl => match us, hl with | [_], _ => rfl
  have g_is_edits := PySem.W.mg_of X G a_is_edits
  have F_is_whole := fun_mk (st := s_is_whole) l_is_whole c_is_whole k_is_whole
  have b_is_whole := F_is_whole.binds (ps := ["thing", "low", "high"]) fun _ _ _ _ _ _ us hl => match us, hl with | [_, _, _], _ => rfl
  have g_is_whole := PySem.W.mg_of X G a_is_whole
  have F_is_bytes := fun_mk (st := s_is_bytes) l_is_bytes c_is_bytes k_is_bytes
  have b_is_bytes := F_is_bytes.binds (ps := ["thing"]) fun _ _ _ _ _ _ us hl => match us, hl with | [_], _ => rfl
  have g_is_bytes := PySem.W.mg_of X G a_is_bytes
  have F_is_small := fun_mk (st := s_is_small) l_is_small c_is_small k_is_small
  have b_is_small := F_is_small.binds (ps := ["edit"]) fun _ _ _ _ _ _ us hl => match us, hl with | [_], _ => rfl
  have g_is_small := PySem.W.mg_of X G a_is_small
  have F_are_lane_edits := fun_mk (st := s_are_lane_edits) l_are_lane_edits c_are_lane_edits k_are_lane_edits
  have b_are_lane_edits := F_are_lane_edits.binds (ps := ["thing"]) fun _ _ _ _ _ _ us hl => match us, hl with | [_], _ => rfl
  have g_are_lane_edits := PySem.W.mg_of X G a_are_lane_edits
  have F_written := fun_mk (st := s_written) l_written c_written k_written
  have b_written := F_written.binds (ps := ["number"]) fun _ _ _ _ _ _ us hl => match us, hl with | [_], _ => rfl
  have g_written := PySem.W.mg_of X G a_written
  have F_number_at := fun_mk (st := s_number_at) l_number_at c_number_at k_number_at
  have b_number_at := F_number_at.binds (ps := ["row", "at"]) fun _ _ _ _ _ _ us hl => match us, hl with | [_, _], _ => rfl
  have g_number_at := PySem.W.mg_of X G a_number_at
  have F_all_written := fun_mk (st := s_all_written) l_all_written c_all_written k_all_written
  have b_all_written := F_all_written.binds (ps := ["numbers"]) fun _ _ _ _ _ _ us hl => match us, hl with | [_], _ => rfl
  have g_all_written := PySem.W.mg_of X G a_all_written
  have F_edit_numbers := fun_mk (st := s_edit_numbers) l_edit_numbers c_edit_numbers k_edit_numbers
  have b_edit_numbers := F_edit_numbers.binds (ps := ["edit"]) fun _ _ _ _ _ _ us hl => match us, hl with | [_], _ => rfl
  have g_edit_numbers := PySem.W.mg_of X G a_edit_numbers
  have F_is_head_lane := fun_mk (st := s_is_head_lane) l_is_head_lane c_is_head_lane k_is_head_lane
  have b_is_head_lane := F_is_head_lane.binds (ps := ["thing"]) fun _ _ _ _ _ _ us hl => match us, hl with | [_], _ => rfl
  have g_is_head_lane := PySem.W.mg_of X G a_is_head_lane
  have F_is_head := fun_mk (st := s_is_head) l_is_head c_is_head k_is_head
  have b_is_head := F_is_head.binds (ps := ["thing"]) fun _ _ _ _ _ _ us hl => match us, hl with | [_], _ => rfl
  have g_is_head := PySem.W.mg_of X G a_is_head
  have F_head_body := fun_mk (st := s_head_body) l_head_body c_head_body k_head_body
  have b_head_body := F_head_body.binds (ps := ["head"]) fun _ _ _ _ _ _ us hl => match us, hl with | [_], _ => rfl
  have g_head_body := PySem.W.mg_of X G a_head_body
  have F_edit_in := fun_mk (st := s_edit_in) l_edit_in c_edit_in k_edit_in
  have b_edit_in := F_edit_in.binds (ps := ["numbers"]) fun _ _ _ _ _ _ us hl => match us, hl with | [_], _ => rfl
  have g_edit_in := PySem.W.mg_of X G a_edit_in
  have F_lane_in := fun_mk (st := s_lane_in) l_lane_in c_lane_in k_lane_in
  have b_lane_in := F_lane_in.binds (ps := ["numbers"]) fun _ _ _ _ _ _ us hl => match us, hl with | [_], _ => rfl
  have g_lane_in := PySem.W.mg_of X G a_lane_in
  have F_head_in := fun_mk (st := s_head_in) l_head_in c_head_in k_head_in
  have b_head_in := F_head_in.binds (ps := ["numbers"]) fun _ _ _ _ _ _ us hl => match us, hl with | [_], _ => rfl
  have g_head_in := PySem.W.mg_of X G a_head_in
  have F_read_as := fun_mk (st := s_read_as__head_in__head_body) l_read_as c_read_as k_read_as
  have b_read_as := F_read_as.binds (ps := ["body", "thing_in", "body_of"]) fun _ _ _ _ _ _ us hl => match us, hl with | [_, _, _], _ => rfl
  have g_read_as := PySem.W.mg_of X G a_read_as
  have F_read_head := fun_mk (st := s_read_head) l_read_head c_read_head k_read_head
  have b_read_head := F_read_head.binds (ps := ["body"]) fun _ _ _ _ _ _ us hl => match us, hl with | [_], _ => rfl
  have g_read_head := PySem.W.mg_of X G a_read_head
  have F__law_digit := fun_mk (st := s__law_digit) l__law_digit c__law_digit k__law_digit
  have b__law_digit := F__law_digit.binds (ps := ["_law_state", "_law_base"]) fun _ _ _ _ _ _ us hl => match us, hl with | [_, _], _ => rfl
  have g__law_digit := PySem.W.mg_of X G a__law_digit
  have F__law_shared := fun_mk (st := s__law_shared) l__law_shared c__law_shared k__law_shared
  have b__law_shared := F__law_shared.binds (ps := ["_law_one", "_law_other"]) fun _ _ _ _ _ _ us hl => match us, hl with | [_, _], _ => rfl
  have g__law_shared := PySem.W.mg_of X G a__law_shared
  have F__law_lowest := fun_mk (st := s__law_lowest) l__law_lowest c__law_lowest k__law_lowest
  have b__law_lowest := F__law_lowest.binds (ps := ["_law_top", "_law_bottom"]) fun _ _ _ _ _ _ us hl => match us, hl with | [_, _], _ => rfl
  have g__law_lowest := PySem.W.mg_of X G a__law_lowest
  have F__law_figures := fun_mk (st := s__law_figures) l__law_figures c__law_figures k__law_figures
  have b__law_figures := F__law_figures.binds (ps := ["_law_number"]) fun _ _ _ _ _ _ us hl => match us, hl with | [_], _ => rfl
  have g__law_figures := PySem.W.mg_of X G a__law_figures
  have F__law_edit_numbers := fun_mk (st := s__law_edit_numbers) l__law_edit_numbers c__law_edit_numbers k__law_edit_numbers
  have b__law_edit_numbers := F__law_edit_numbers.binds (ps := ["_law_row"]) fun _ _ _ _ _ _ us hl => match us, hl with | [_], _ => rfl
  have g__law_edit_numbers := PySem.W.mg_of X G a__law_edit_numbers
  have F__law_head_numbers := fun_mk (st := s__law_head_numbers) l__law_head_numbers c__law_head_numbers k__law_head_numbers
  have b__law_head_numbers := F__law_head_numbers.binds (ps := ["_law_head_here"]) fun _ _ _ _ _ _ us hl => match us, hl with | [_], _ => rfl
  have g__law_head_numbers := PySem.W.mg_of X G a__law_head_numbers
  have F__law_all_figures := fun_mk (st := s__law_all_figures) l__law_all_figures c__law_all_figures k__law_all_figures
  have b__law_all_figures := F__law_all_figures.binds (ps := ["_law_numbers"]) fun _ _ _ _ _ _ us hl => match us, hl with | [_], _ => rfl
  have g__law_all_figures := PySem.W.mg_of X G a__law_all_figures
  have F__law_refused := fun_mk (st := s__law_refused__read_head) l__law_refused c__law_refused k__law_refused
  have b__law_refused := F__law_refused.binds (ps := ["_law_ask", "_law_thing"]) fun _ _ _ _ _ _ us hl => match us, hl with | [_, _], _ => rfl
  have g__law_refused := PySem.W.mg_of X G a__law_refused
  have F__law_moment := fun_mk (st := s__law_moment) l__law_moment c__law_moment k__law_moment
  have b__law_moment := F__law_moment.binds (ps := ["_law_state", "_law_most"]) fun _ _ _ _ _ _ us hl => match us, hl with | [_, _], _ => rfl
  have g__law_moment := PySem.W.mg_of X G a__law_moment
  have F__law_edit := fun_mk (st := s__law_edit) l__law_edit c__law_edit k__law_edit
  have b__law_edit := F__law_edit.binds (ps := ["_law_state"]) fun _ _ _ _ _ _ us hl => match us, hl with | [_], _ => rfl
  have g__law_edit := PySem.W.mg_of X G a__law_edit
  have F__law_head := fun_mk (st := s__law_head) l__law_head c__law_head k__law_head
  have b__law_head := F__law_head.binds (ps := ["_law_state"]) fun _ _ _ _ _ _ us hl => match us, hl with | [_], _ => rfl
  have g__law_head := PySem.W.mg_of X G a__law_head
  have F__law_no_edit := fun_mk (st := s__law_no_edit) l__law_no_edit c__law_no_edit k__law_no_edit
  have b__law_no_edit := F__law_no_edit.binds (ps := ["_law_state", "_law_row"]) fun _ _ _ _ _ _ us hl => match us, hl with | [_, _], _ => rfl
  have g__law_no_edit := PySem.W.mg_of X G a__law_no_edit
  have F__law_no_lane := fun_mk (st := s__law_no_lane) l__law_no_lane c__law_no_lane k__law_no_lane
  have b__law_no_lane := F__law_no_lane.binds (ps := ["_law_state", "_law_lane"]) fun _ _ _ _ _ _ us hl => match us, hl with | [_, _], _ => rfl
  have g__law_no_lane := PySem.W.mg_of X G a__law_no_lane
  have F__law_no_head := fun_mk (st := s__law_no_head) l__law_no_head c__law_no_head k__law_no_head
  have b__law_no_head := F__law_no_head.binds (ps := ["_law_state", "_law_head_here"]) fun _ _ _ _ _ _ us hl => match us, hl with | [_, _], _ => rfl
  have g__law_no_head := PySem.W.mg_of X G a__law_no_head
  have F__law_kept := fun_mk (st := s__law_kept) l__law_kept c__law_kept k__law_kept
  have b__law_kept := F__law_kept.binds (ps := ["_law_head_here"]) fun _ _ _ _ _ _ us hl => match us, hl with | [_], _ => rfl
  have g__law_kept := PySem.W.mg_of X G a__law_kept
  have F__law_kinds := fun_mk (st := s__law_kinds) l__law_kinds c__law_kinds k__law_kinds
  have b__law_kinds := F__law_kinds.binds (ps := ["_law_head_here"]) fun _ _ _ _ _ _ us hl => match us, hl with | [_], _ => rfl
  have g__law_kinds := PySem.W.mg_of X G a__law_kinds
  have F_law := fun_mk (st := s_law) l_law c_law k_law
  have b_law := F_law.binds (ps := ["_law_script"]) fun _ _ _ _ _ _ us hl => match us, hl with | [_], _ => rfl
  have g_law := PySem.W.mg_of X G a_law
  have F_Numbers____init__ := fun_mk (st := s_Numbers____init__) l_Numbers____init__ c_Numbers____init__ k_Numbers____init__
  have b_Numbers____init__ := F_Numbers____init__.binds (ps := ["self", "row"]) fun _ _ _ _ _ _ us hl => match us, hl with | [_, _], _ => rfl
  have F_Numbers__number := fun_mk (st := s_Numbers__number) l_Numbers__number c_Numbers__number k_Numbers__number
  have b_Numbers__number := F_Numbers__number.binds (ps := ["self", "low", "high"]) fun _ _ _ _ _ _ us hl => match us, hl with | [_, _, _], _ => rfl
  have F_Numbers__pair := fun_mk (st := s_Numbers__pair) l_Numbers__pair c_Numbers__pair k_Numbers__pair
  have b_Numbers__pair := F_Numbers__pair.binds (ps := ["self"]) fun _ _ _ _ _ _ us hl => match us, hl with | [_], _ => rfl
  have T_Numbers : KI K mg "Numbers" C_Numbers := ⟨⟨kca_Numbers, ⟨kcpg_Numbers, kchd_Numbers, kcpo_Numbers, kcsa_Numbers⟩, kcha_Numbers, xhn, xht, kchm_Numbers, bt_of kctbool_Numbers kctint_Numbers kctstr_Numbers kctlist_Numbers kcttuple_Numbers kctdict_Numbers⟩, PySem.W.mg_of X G kca_Numbers, kcty_Numbers, kcis_Numbers, kcself_Numbers⟩
  have M_Numbers : L2.Mk K C_Numbers f_Numbers____init__ := ⟨kcmk_Numbers, a_Numbers____init__, fn_Numbers____init__, kckp_Numbers⟩
  have lo_Numbers : LaysOk K C_Numbers ["row", "at"] := ⟨n_Numbers_row, ⟨n_Numbers_at, trivial⟩⟩
  have bi_Numbers := b_Numbers____init__
  have F_read_as__head_in__head_body := F_read_as
  have b_read_as__head_in__head_body := b_read_as
  have g_read_as__head_in__head_body := g_read_as
  have k_read_as__head_in__head_body := k_read_as
  have F__law_refused__read_head := F__law_refused
  have b__law_refused__read_head := b__law_refused
  have g__law_refused__read_head := g__law_refused
  have k__law_refused__read_head := k__law_refused
  have F__law_refused__head_body := F__law_refused
  have b__law_refused__head_body := b__law_refused
  have g__law_refused__head_body := g__law_refused
  have k__law_refused__head_body := k__law_refused
  have T_NoNumber : ExcR K mg "NoNumber" C_NoNumber := ⟨⟨PySem.W.mg_of X G xca_NoNumber, ⟨xchg_NoNumber, xchk_NoNumber, xchs_NoNumber, xchd_NoNumber, xcha_NoNumber, xhn, xht, xchm_NoNumber⟩, xcty_NoNumber, xckp_NoNumber, xcve_NoNumber, xcis_NoNumber, xcself_NoNumber⟩, xcex_NoNumber⟩
  have T_NoBody : ExcR K mg "NoBody" C_NoBody := ⟨⟨PySem.W.mg_of X G xca_NoBody, ⟨xchg_NoBody, xchk_NoBody, xchs_NoBody, xchd_NoBody, xcha_NoBody, xhn, xht, xchm_NoBody⟩, xcty_NoBody, xckp_NoBody, xcve_NoBody, xcis_NoBody, xcself_NoBody⟩, xcex_NoBody⟩
  have T_ScrollError : ExcR K mg "ScrollError" C_ScrollError := ⟨⟨PySem.W.mg_of X G xca_ScrollError, ⟨xchg_ScrollError, xchk_ScrollError, xchs_ScrollError, xchd_ScrollError, xcha_ScrollError, xhn, xht, xchm_ScrollError⟩, xcty_ScrollError, xckp_ScrollError, xcve_ScrollError, xcis_ScrollError, xcself_ScrollError⟩, xcex_ScrollError⟩
  have T_NoBytes : ExcR K mg "NoBytes" C_NoBytes := ⟨⟨PySem.W.mg_of X G xca_NoBytes, ⟨xchg_NoBytes, xchk_NoBytes, xchs_NoBytes, xchd_NoBytes, xcha_NoBytes, xhn, xht, xchm_NoBytes⟩, xcty_NoBytes, xckp_NoBytes, xcve_NoBytes, xcis_NoBytes, xcself_NoBytes⟩, xcex_NoBytes⟩
  have T_NoLeaf : ExcR K mg "NoLeaf" C_NoLeaf := ⟨⟨PySem.W.mg_of X G xca_NoLeaf, ⟨xchg_NoLeaf, xchk_NoLeaf, xchs_NoLeaf, xchd_NoLeaf, xcha_NoLeaf, xhn, xht, xchm_NoLeaf⟩, xcty_NoLeaf, xckp_NoLeaf, xcve_NoLeaf, xcis_NoLeaf, xcself_NoLeaf⟩, xcex_NoLeaf⟩
  have c_NOUGHT : CT K mg "NOUGHT" C_NOUGHT (⟨0, 1⟩ : (Tp2 Int Int)) := ⟨PySem.W.mg_of X G cg_NOUGHT, fun B => .tup (Or.inr ⟨_, _, _, cl_NOUGHT, rfl, rfl, by show 2 ≤ sizeLine; decide, (.cons (show L2.RelV (.int 0) (.int 0 tk_NOUGHT_0) from ⟨_, rfl⟩) (.cons (show L2.RelV (.int 1) (.int 1 tk_NOUGHT_1) from ⟨_, rfl⟩) .nil))⟩) (.cons (Rep.int _) (.cons (Rep.int _) .nil))⟩
  have c_GREATEST : CI mg "GREATEST" 1000000000000000000000000000000000000000000000000000000000000 := ⟨⟨_, PySem.W.mg_of X G cg_GREATEST⟩⟩
  have c_HEAD : CI mg "HEAD" 1 := ⟨⟨_, PySem.W.mg_of X G cg_HEAD⟩⟩
  have c_PIECE : CI mg "PIECE" 2 := ⟨⟨_, PySem.W.mg_of X G cg_PIECE⟩⟩
  have c_INDEX : CI mg "INDEX" 3 := ⟨⟨_, PySem.W.mg_of X G cg_INDEX⟩⟩
  have bI_abs := PySem.W.mg_none_of X G z_abs
  have bI_isinstance := PySem.W.mg_none_of X G z_isinstance
  have bI_int := PySem.W.mg_none_of X G z_int
  have bI_bool := PySem.W.mg_none_of X G z_bool
  have bI_tuple := PySem.W.mg_none_of X G z_tuple
  have bI_len := PySem.W.mg_none_of X G z_len
  have bI_list := PySem.W.mg_none_of X G z_list
  have bI_all := PySem.W.mg_none_of X G z_all
  have bI_max := PySem.W.mg_none_of X G z_max
  have bI_range := PySem.W.mg_none_of X G z_range
  refine ⟨_, fun s v => (.of_eq rfl : BindsTo s (PySem.W.fnOf "law" "law" (defArgs s_law) (defBody s_law) (defScope s_law) .none kV_law dc_law pm_law an_law cd_law ct_law) ⟨[v], []⟩ [("_law_script", v)]), fun base _ _ => ?_⟩
  have G_Numbers____init__ := ok_Numbers____init__ (Pr := l.prog) (wo := w) (base := base) (mg := mg) F_Numbers____init__
  have Gi_Numbers := G_Numbers____init__
  have G_divisor := ok_divisor (Pr := l.prog) (wo := w) (base := base) (mg := mg) F_divisor bI_abs
  have G_is_number := ok_is_number (Pr := l.prog) (wo := w) (base := base) (mg := mg) F_is_number bI_isinstance bI_int bI_bool
  have G_less := ok_less (Pr := l.prog) (wo := w) (base := base) (mg := mg) F_less
  have G_is_whole := ok_is_whole (Pr := l.prog) (wo := w) (base := base) (mg := mg) F_is_whole bI_isinstance bI_int bI_bool
  have G_is_small := ok_is_small (Pr := l.prog) (wo := w) (base := base) (mg := mg) F_is_small bI_max
  have G_number_at := ok_number_at (Pr := l.prog) (wo := w) (base := base) (mg := mg) F_number_at c_GREATEST bI_len
  have G_edit_numbers := ok_edit_numbers (Pr := l.prog) (wo := w) (base := base) (mg := mg) F_edit_numbers bI_list
  have G__law_digit := ok__law_digit (Pr := l.prog) (wo := w) (base := base) (mg := mg) F__law_digit bI_len
  have G__law_shared := ok__law_shared (Pr := l.prog) (wo := w) (base := base) (mg := mg) F__law_shared bI_abs
  have G__law_figures := ok__law_figures (Pr := l.prog) (wo := w) (base := base) (mg := mg) F__law_figures
  have G__law_edit_numbers := ok__law_edit_numbers (Pr := l.prog) (wo := w) (base := base) (mg := mg) F__law_edit_numbers
  have G__law_kept := ok__law_kept (Pr := l.prog) (wo := w) (base := base) (mg := mg) F__law_kept bI_list
  have G__law_kinds := ok__law_kinds (Pr := l.prog) (wo := w) (base := base) (mg := mg) F__law_kinds bI_all bI_isinstance bI_tuple bI_list
  have G_is_fraction := ok_is_fraction (Pr := l.prog) (wo := w) (base := base) (mg := mg) F_is_fraction g_divisor k_divisor b_divisor G_divisor g_is_number k_is_number b_is_number G_is_number bI_isinstance bI_tuple bI_len
  have G_is_bytes := ok_is_bytes (Pr := l.prog) (wo := w) (base := base) (mg := mg) F_is_bytes g_is_whole k_is_whole b_is_whole G_is_whole bI_isinstance bI_list bI_all
  have G_written := ok_written (Pr := l.prog) (wo := w) (base := base) (mg := mg) F_written c_GREATEST T_NoNumber g_is_whole k_is_whole b_is_whole G_is_whole
  have G__law_lowest := ok__law_lowest (Pr := l.prog) (wo := w) (base := base) (mg := mg) F__law_lowest g__law_shared k__law_shared b__law_shared G__law_shared
  have G__law_head_numbers := ok__law_head_numbers (Pr := l.prog) (wo := w) (base := base) (mg := mg) F__law_head_numbers g__law_edit_numbers k__law_edit_numbers b__law_edit_numbers G__law_edit_numbers bI_len
  have G__law_all_figures := ok__law_all_figures (Pr := l.prog) (wo := w) (base := base) (mg := mg) F__law_all_figures g__law_figures k__law_figures b__law_figures G__law_figures
  have G__law_no_edit := ok__law_no_edit (Pr := l.prog) (wo := w) (base := base) (mg := mg) F__law_no_edit g__law_digit k__law_digit b__law_digit G__law_digit bI_list bI_len
  have G_Numbers__number := ok_Numbers__number (Pr := l.prog) (wo := w) (base := base) (mg := mg) F_Numbers__number T_NoBody T_Numbers n_Numbers_row n_Numbers_at g_number_at k_number_at b_number_at G_number_at
  have L_Numbers__number : MAlt l.prog w K mg base (L2.CX l.prog w) 2 "number" C_Numbers (sp_Numbers__number K mg C_Numbers) := ⟨_, _, _, T_Numbers.c, ⟨a_Numbers__number, fn_Numbers__number, k_Numbers__number⟩, G_Numbers__number, b_Numbers__number⟩
  have G_is_moment := ok_is_moment (Pr := l.prog) (wo := w) (base := base) (mg := mg) F_is_moment g_is_fraction k_is_fraction b_is_fraction G_is_fraction
  have G_all_written := ok_all_written (Pr := l.prog) (wo := w) (base := base) (mg := mg) F_all_written g_written k_written b_written G_written
  have G__law_moment := ok__law_moment (Pr := l.prog) (wo := w) (base := base) (mg := mg) F__law_moment g__law_lowest k__law_lowest b__law_lowest G__law_lowest g__law_digit k__law_digit b__law_digit G__law_digit
  have G__law_no_lane := ok__law_no_lane (Pr := l.prog) (wo := w) (base := base) (mg := mg) F__law_no_lane g__law_digit k__law_digit b__law_digit G__law_digit g__law_no_edit k__law_no_edit b__law_no_edit G__law_no_edit bI_tuple
  have G_Numbers__pair := ok_Numbers__pair (Pr := l.prog) (wo := w) (base := base) (mg := mg) F_Numbers__pair c_GREATEST T_Numbers L_Numbers__number
  have L_Numbers__pair : MAlt l.prog w K mg base (L2.CX l.prog w) 3 "pair" C_Numbers (sp_Numbers__pair K mg C_Numbers) := ⟨_, _, _, T_Numbers.c, ⟨a_Numbers__pair, fn_Numbers__pair, k_Numbers__pair⟩, G_Numbers__pair, b_Numbers__pair⟩
  have G_is_edit := ok_is_edit (Pr := l.prog) (wo := w) (base := base) (mg := mg) F_is_edit c_NOUGHT g_is_moment k_is_moment b_is_moment G_is_moment g_is_fraction k_is_fraction b_is_fraction G_is_fraction g_less k_less b_less G_less bI_isinstance bI_tuple bI_len
  have G_edit_in := ok_edit_in (Pr := l.prog) (wo := w) (base := base) (mg := mg) F_edit_in c_NOUGHT T_Numbers L_Numbers__pair L_Numbers__number
  have G__law_edit := ok__law_edit (Pr := l.prog) (wo := w) (base := base) (mg := mg) F__law_edit g__law_lowest k__law_lowest b__law_lowest G__law_lowest g__law_digit k__law_digit b__law_digit G__law_digit g__law_moment k__law_moment b__law_moment G__law_moment
  have G__law_no_head := ok__law_no_head (Pr := l.prog) (wo := w) (base := base) (mg := mg) F__law_no_head g__law_digit k__law_digit b__law_digit G__law_digit g__law_no_lane k__law_no_lane b__law_no_lane G__law_no_lane bI_len bI_tuple
  have G_is_edits := ok_is_edits (Pr := l.prog) (wo := w) (base := base) (mg := mg) F_is_edits g_is_edit k_is_edit b_is_edit G_is_edit bI_isinstance bI_list bI_all
  have G_lane_in := ok_lane_in (Pr := l.prog) (wo := w) (base := base) (mg := mg) F_lane_in T_Numbers L_Numbers__number g_edit_in k_edit_in b_edit_in G_edit_in bI_range
  have G__law_head := ok__law_head (Pr := l.prog) (wo := w) (base := base) (mg := mg) F__law_head g__law_digit k__law_digit b__law_digit G__law_digit g__law_edit k__law_edit b__law_edit G__law_edit bI_range
  have G_are_lane_edits := ok_are_lane_edits (Pr := l.prog) (wo := w) (base := base) (mg := mg) F_are_lane_edits g_is_edits k_is_edits b_is_edits G_is_edits g_is_small k_is_small b_is_small G_is_small bI_all bI_isinstance bI_list bI_len
  have G_head_in := ok_head_in (Pr := l.prog) (wo := w) (base := base) (mg := mg) F_head_in T_Numbers L_Numbers__number g_lane_in k_lane_in b_lane_in G_lane_in bI_range
  have G_is_head_lane := ok_is_head_lane (Pr := l.prog) (wo := w) (base := base) (mg := mg) F_is_head_lane g_is_whole k_is_whole b_is_whole G_is_whole g_are_lane_edits k_are_lane_edits b_are_lane_edits G_are_lane_edits bI_isinstance bI_tuple bI_len
  have G_is_head := ok_is_head (Pr := l.prog) (wo := w) (base := base) (mg := mg) F_is_head g_is_whole k_is_whole b_is_whole G_is_whole g_is_head_lane k_is_head_lane b_is_head_lane G_is_head_lane bI_all bI_isinstance bI_tuple bI_len bI_list
  have G_head_body := ok_head_body (Pr := l.prog) (wo := w) (base := base) (mg := mg) F_head_body T_NoBody g_all_written k_all_written b_all_written G_all_written g_is_head k_is_head b_is_head G_is_head g_edit_numbers k_edit_numbers b_edit_numbers G_edit_numbers bI_len
  have G_read_as__head_in__head_body := ok_read_as__head_in__head_body (Pr := l.prog) (wo := w) (base := base) (mg := mg) F_read_as__head_in__head_body T_NoBody T_Numbers M_Numbers lo_Numbers bi_Numbers Gi_Numbers g_head_in k_head_in b_head_in G_head_in g_is_bytes k_is_bytes b_is_bytes G_is_bytes g_head_body k_head_body b_head_body G_head_body
  have G__law_refused__head_body := ok__law_refused__head_body (Pr := l.prog) (wo := w) (base := base) (mg := mg) F__law_refused__head_body T_NoBody T_ScrollError T_NoBytes T_NoLeaf T_NoNumber p_NoBody_NoBody p_NoBody_NoBytes p_NoBody_NoLeaf p_NoBody_NoNumber g_head_body k_head_body b_head_body G_head_body bI_isinstance
  have G_read_head := ok_read_head (Pr := l.prog) (wo := w) (base := base) (mg := mg) F_read_head g_head_in k_head_in b_head_in G_head_in g_head_body k_head_body b_head_body G_head_body g_read_as__head_in__head_body k_read_as__head_in__head_body b_read_as__head_in__head_body G_read_as__head_in__head_body
  have G__law_refused__read_head := ok__law_refused__read_head (Pr := l.prog) (wo := w) (base := base) (mg := mg) F__law_refused__read_head T_NoBody T_ScrollError T_NoBytes T_NoLeaf T_NoNumber p_NoBody_NoBody p_NoBody_NoBytes p_NoBody_NoLeaf p_NoBody_NoNumber g_read_head k_read_head b_read_head G_read_head bI_isinstance
  have G_law := ok_law (Pr := l.prog) (wo := w) (base := base) (mg := mg) F_law c_HEAD c_PIECE c_INDEX g__law_head k__law_head b__law_head G__law_head g__law_all_figures k__law_all_figures b__law_all_figures G__law_all_figures g__law_head_numbers k__law_head_numbers b__law_head_numbers G__law_head_numbers g__law_kept k__law_kept b__law_kept G__law_kept g_head_body k_head_body b_head_body G_head_body g_read_head k_read_head b_read_head G_read_head g__law_no_head k__law_no_head b__law_no_head G__law_no_head g__law_kinds k__law_kinds b__law_kinds G__law_kinds g__law_digit k__law_digit b__law_digit G__law_digit g__law_refused__head_body k__law_refused__head_body b__law_refused__head_body G__law_refused__head_body g__law_refused__read_head k__law_refused__read_head b__law_refused__read_head G__law_refused__read_head bI_range bI_isinstance bI_list bI_tuple
  exact G_law.imp fun vs H Q E h => top_of law_ok h
end A
open PySem PySem.W PyProof.Rows
set_option maxRecDepth 100000 in
set_option maxHeartbeats 0 in
theorem PySem.Challenge.cw_lanescroll_k41_heads_and_their_bodies_holds : PySem.Challenge.rw_lanescroll_k41_heads_and_their_bodies.Holds := by
  w_on; o_law; k_head; (case hw => w_witness2)
  k_fill
  refine Y.walk_top (l := PySem.Challenge.rw_lanescroll_k41_heads_and_their_bodies) (k := 13) (x := "_law_script") rfl rfl ⟨rfl, by decide, by decide⟩ (fun w h Y => PySem.W.kIn_of Y) ?F
  case F =>
    intro w mg fa h KX G hmg
    refine' A.all_mk KX G hmg ?kca_Numbers ?kcpg_Numbers ?kchd_Numbers ?kcpo_Numbers ?kcsa_Numbers ?kcha_Numbers ?kchm_Numbers ?kcty_Numbers ?kcis_Numbers ?kcself_Numbers ?kctbool_Numbers ?kctint_Numbers ?kctstr_Numbers ?kctlist_Numbers ?kcttuple_Numbers ?kctdict_Numbers ?kcmk_Numbers ?kckp_Numbers ?n_Numbers_row ?n_Numbers_at ?a_divisor ?l_divisor ?c_divisor ?k_divisor ?a_is_number ?l_is_number ?c_is_number ?k_is_number ?a_is_fraction ?l_is_fraction ?c_is_fraction ?k_is_fraction ?a_is_moment ?l_is_moment ?c_is_moment ?k_is_moment ?a_less ?l_less ?c_less ?k_less ?a_is_edit ?l_is_edit ?c_is_edit ?k_is_edit ?a_is_edits ?l_is_edits ?c_is_edits ?k_is_edits ?a_is_whole ?l_is_whole ?c_is_whole ?k_is_whole ?a_is_bytes ?l_is_bytes ?c_is_bytes ?k_is_bytes ?a_is_small ?l_is_small ?c_is_small ?k_is_small ?a_are_lane_edits ?l_are_lane_edits ?c_are_lane_edits ?k_are_lane_edits ?a_written ?l_written ?c_written ?k_written ?a_number_at ?l_number_at ?c_number_at ?k_number_at ?a_all_written ?l_all_written ?c_all_written ?k_all_written ?a_edit_numbers ?l_edit_numbers ?c_edit_numbers ?k_edit_numbers ?a_is_head_lane ?l_is_head_lane ?c_is_head_lane ?k_is_head_lane ?a_is_head ?l_is_head ?c_is_head ?k_is_head ?a_head_body ?l_head_body ?c_head_body ?k_head_body ?a_edit_in ?l_edit_in ?c_edit_in ?k_edit_in ?a_lane_in ?l_lane_in ?c_lane_in ?k_lane_in ?a_head_in ?l_head_in ?c_head_in ?k_head_in ?a_read_as ?l_read_as ?c_read_as ?k_read_as ?a_read_head ?l_read_head ?c_read_head ?k_read_head ?a__law_digit ?l__law_digit ?c__law_digit ?k__law_digit ?a__law_shared ?l__law_shared ?c__law_shared ?k__law_shared ?a__law_lowest ?l__law_lowest ?c__law_lowest ?k__law_lowest ?a__law_figures ?l__law_figures ?c__law_figures ?k__law_figures ?a__law_edit_numbers ?l__law_edit_numbers ?c__law_edit_numbers ?k__law_edit_numbers ?a__law_head_numbers ?l__law_head_numbers ?c__law_head_numbers ?k__law_head_numbers ?a__law_all_figures ?l__law_all_figures ?c__law_all_figures ?k__law_all_figures ?a__law_refused ?l__law_refused ?c__law_refused ?k__law_refused ?a__law_moment ?l__law_moment ?c__law_moment ?k__law_moment ?a__law_edit ?l__law_edit ?c__law_edit ?k__law_edit ?a__law_head ?l__law_head ?c__law_head ?k__law_head ?a__law_no_edit ?l__law_no_edit ?c__law_no_edit ?k__law_no_edit ?a__law_no_lane ?l__law_no_lane ?c__law_no_lane ?k__law_no_lane ?a__law_no_head ?l__law_no_head ?c__law_no_head ?k__law_no_head ?a__law_kept ?l__law_kept ?c__law_kept ?k__law_kept ?a__law_kinds ?l__law_kinds ?c__law_kinds ?k__law_kinds ?a_law ?l_law ?c_law ?k_law ?a_Numbers____init__ ?fn_Numbers____init__ ?l_Numbers____init__ ?c_Numbers____init__ ?k_Numbers____init__ ?a_Numbers__number ?fn_Numbers__number ?l_Numbers__number ?c_Numbers__number ?k_Numbers__number ?a_Numbers__pair ?fn_Numbers__pair ?l_Numbers__pair ?c_Numbers__pair ?k_Numbers__pair ?xca_NoNumber ?xchg_NoNumber ?xchk_NoNumber ?xchs_NoNumber ?xchd_NoNumber ?xcha_NoNumber ?xchm_NoNumber ?xcty_NoNumber ?xckp_NoNumber ?xcve_NoNumber ?xcis_NoNumber ?xcself_NoNumber ?xcex_NoNumber ?xca_NoBody ?xchg_NoBody ?xchk_NoBody ?xchs_NoBody ?xchd_NoBody ?xcha_NoBody ?xchm_NoBody ?xcty_NoBody ?xckp_NoBody ?xcve_NoBody ?xcis_NoBody ?xcself_NoBody ?xcex_NoBody ?xca_ScrollError ?xchg_ScrollError ?xchk_ScrollError ?xchs_ScrollError ?xchd_ScrollError ?xcha_ScrollError ?xchm_ScrollError ?xcty_ScrollError ?xckp_ScrollError ?xcve_ScrollError ?xcis_ScrollError ?xcself_ScrollError ?xcex_ScrollError ?xca_NoBytes ?xchg_NoBytes ?xchk_NoBytes ?xchs_NoBytes ?xchd_NoBytes ?xcha_NoBytes ?xchm_NoBytes ?xcty_NoBytes ?xckp_NoBytes ?xcve_NoBytes ?xcis_NoBytes ?xcself_NoBytes ?xcex_NoBytes ?xca_NoLeaf ?xchg_NoLeaf ?xchk_NoLeaf ?xchs_NoLeaf ?xchd_NoLeaf ?xcha_NoLeaf ?xchm_NoLeaf ?xcty_NoLeaf ?xckp_NoLeaf ?xcve_NoLeaf ?xcis_NoLeaf ?xcself_NoLeaf ?xcex_NoLeaf ?cg_NOUGHT ?cl_NOUGHT ?cg_GREATEST ?cg_HEAD ?cg_PIECE ?cg_INDEX ?p_NoBody_NoBody ?p_NoBody_NoBytes ?p_NoBody_NoLeaf ?p_NoBody_NoNumber ?xhn ?xht ?z_abs ?z_isinstance ?z_int ?z_bool ?z_tuple ?z_len ?z_list ?z_all ?z_max ?z_range
    (case kca_Numbers => k_is)
    (case kcpg_Numbers => k_is)
    (case kchd_Numbers => k_is)
    (case kcpo_Numbers => k_is)
    (case kcsa_Numbers => k_is)
    (case kcha_Numbers => k_is)
    (case kchm_Numbers => k_is)
    (case kcty_Numbers => k_is)
    (case kcis_Numbers => k_is)
    (case kcself_Numbers => k_is)
    (case kctbool_Numbers => k_is)
    (case kctint_Numbers => k_is)
    (case kctstr_Numbers => k_is)
    (case kctlist_Numbers => k_is)
    (case kcttuple_Numbers => k_is)
    (case kctdict_Numbers => k_is)
    (case kcmk_Numbers => k_is)
    (case kckp_Numbers => k_is)
    (case n_Numbers_row => k_is)
    (case n_Numbers_at => k_is)
    (case a_divisor => k_is)
    (case l_divisor => k_is)
    (case c_divisor => k_is)
    (case k_divisor => k_is)
    (case a_is_number => k_is)
    (case l_is_number => k_is)
    (case c_is_number => k_is)
    (case k_is_number => k_is)
    (case a_is_fraction => k_is)
    (case l_is_fraction => k_is)
    (case c_is_fraction => k_is)
    (case k_is_fraction => k_is)
    (case a_is_moment => k_is)
    (case l_is_moment => k_is)
    (case c_is_moment => k_is)
    (case k_is_moment => k_is)
    (case a_less => k_is)
    (case l_less => k_is)
    (case c_less => k_is)
    (case k_less => k_is)
    (case a_is_edit => k_is)
    (case l_is_edit => k_is)
    (case c_is_edit => k_is)
    (case k_is_edit => k_is)
    (case a_is_edits => k_is)
    (case l_is_edits => k_is)
    (case c_is_edits => k_is)
    (case k_is_edits => k_is)
    (case a_is_whole => k_is)
    (case l_is_whole => k_is)
    (case c_is_whole => k_is)
    (case k_is_whole => k_is)
    (case a_is_bytes => k_is)
    (case l_is_bytes => k_is)
    (case c_is_bytes => k_is)
    (case k_is_bytes => k_is)
    (case a_is_small => k_is)
    (case l_is_small => k_is)
    (case c_is_small => k_is)
    (case k_is_small => k_is)
    (case a_are_lane_edits => k_is)
    (case l_are_lane_edits => k_is)
    (case c_are_lane_edits => k_is)
    (case k_are_lane_edits => k_is)
    (case a_written => k_is)
    (case l_written => k_is)
    (case c_written => k_is)
    (case k_written => k_is)
    (case a_number_at => k_is)
    (case l_number_at => k_is)
    (case c_number_at => k_is)
    (case k_number_at => k_is)
    (case a_all_written => k_is)
    (case l_all_written => k_is)
    (case c_all_written => k_is)
    (case k_all_written => k_is)
    (case a_edit_numbers => k_is)
    (case l_edit_numbers => k_is)
    (case c_edit_numbers => k_is)
    (case k_edit_numbers => k_is)
    (case a_is_head_lane => k_is)
    (case l_is_head_lane => k_is)
    (case c_is_head_lane => k_is)
    (case k_is_head_lane => k_is)
    (case a_is_head => k_is)
    (case l_is_head => k_is)
    (case c_is_head => k_is)
    (case k_is_head => k_is)
    (case a_head_body => k_is)
    (case l_head_body => k_is)
    (case c_head_body => k_is)
    (case k_head_body => k_is)
    (case a_edit_in => k_is)
    (case l_edit_in => k_is)
    (case c_edit_in => k_is)
    (case k_edit_in => k_is)
    (case a_lane_in => k_is)
    (case l_lane_in => k_is)
    (case c_lane_in => k_is)
    (case k_lane_in => k_is)
    (case a_head_in => k_is)
    (case l_head_in => k_is)
    (case c_head_in => k_is)
    (case k_head_in => k_is)
    (case a_read_as => k_is)
    (case l_read_as => k_is)
    (case c_read_as => k_is)
    (case k_read_as => k_is)
    (case a_read_head => k_is)
    (case l_read_head => k_is)
    (case c_read_head => k_is)
    (case k_read_head => k_is)
    (case a__law_digit => k_is)
    (case l__law_digit => k_is)
    (case c__law_digit => k_is)
    (case k__law_digit => k_is)
    (case a__law_shared => k_is)
    (case l__law_shared => k_is)
    (case c__law_shared => k_is)
    (case k__law_shared => k_is)
    (case a__law_lowest => k_is)
    (case l__law_lowest => k_is)
    (case c__law_lowest => k_is)
    (case k__law_lowest => k_is)
    (case a__law_figures => k_is)
    (case l__law_figures => k_is)
    (case c__law_figures => k_is)
    (case k__law_figures => k_is)
    (case a__law_edit_numbers => k_is)
    (case l__law_edit_numbers => k_is)
    (case c__law_edit_numbers => k_is)
    (case k__law_edit_numbers => k_is)
    (case a__law_head_numbers => k_is)
    (case l__law_head_numbers => k_is)
    (case c__law_head_numbers => k_is)
    (case k__law_head_numbers => k_is)
    (case a__law_all_figures => k_is)
    (case l__law_all_figures => k_is)
    (case c__law_all_figures => k_is)
    (case k__law_all_figures => k_is)
    (case a__law_refused => k_is)
    (case l__law_refused => k_is)
    (case c__law_refused => k_is)
    (case k__law_refused => k_is)
    (case a__law_moment => k_is)
    (case l__law_moment => k_is)
    (case c__law_moment => k_is)
    (case k__law_moment => k_is)
    (case a__law_edit => k_is)
    (case l__law_edit => k_is)
    (case c__law_edit => k_is)
    (case k__law_edit => k_is)
    (case a__law_head => k_is)
    (case l__law_head => k_is)
    (case c__law_head => k_is)
    (case k__law_head => k_is)
    (case a__law_no_edit => k_is)
    (case l__law_no_edit => k_is)
    (case c__law_no_edit => k_is)
    (case k__law_no_edit => k_is)
    (case a__law_no_lane => k_is)
    (case l__law_no_lane => k_is)
    (case c__law_no_lane => k_is)
    (case k__law_no_lane => k_is)
    (case a__law_no_head => k_is)
    (case l__law_no_head => k_is)
    (case c__law_no_head => k_is)
    (case k__law_no_head => k_is)
    (case a__law_kept => k_is)
    (case l__law_kept => k_is)
    (case c__law_kept => k_is)
    (case k__law_kept => k_is)
    (case a__law_kinds => k_is)
    (case l__law_kinds => k_is)
    (case c__law_kinds => k_is)
    (case k__law_kinds => k_is)
    (case a_law => k_is)
    (case l_law => k_is)
    (case c_law => k_is)
    (case k_law => k_is)
    (case a_Numbers____init__ => k_is)
    (case fn_Numbers____init__ => k_is)
    (case l_Numbers____init__ => k_is)
    (case c_Numbers____init__ => k_is)
    (case k_Numbers____init__ => k_is)
    (case a_Numbers__number => k_is)
    (case fn_Numbers__number => k_is)
    (case l_Numbers__number => k_is)
    (case c_Numbers__number => k_is)
    (case k_Numbers__number => k_is)
    (case a_Numbers__pair => k_is)
    (case fn_Numbers__pair => k_is)
    (case l_Numbers__pair => k_is)
    (case c_Numbers__pair => k_is)
    (case k_Numbers__pair => k_is)
    (case xca_NoNumber => k_is)
    (case xchg_NoNumber => k_is)
    (case xchk_NoNumber => k_is)
    (case xchs_NoNumber => k_is)
    (case xchd_NoNumber => k_is)
    (case xcha_NoNumber => k_is)
    (case xchm_NoNumber => k_is)
    (case xcty_NoNumber => k_is)
    (case xckp_NoNumber => k_is)
    (case xcve_NoNumber => k_is)
    (case xcis_NoNumber => k_is)
    (case xcself_NoNumber => k_is)
    (case xcex_NoNumber => k_exc)
    (case xca_NoBody => k_is)
    (case xchg_NoBody => k_is)
    (case xchk_NoBody => k_is)
    (case xchs_NoBody => k_is)
    (case xchd_NoBody => k_is)
    (case xcha_NoBody => k_is)
    (case xchm_NoBody => k_is)
    (case xcty_NoBody => k_is)
    (case xckp_NoBody => k_is)
    (case xcve_NoBody => k_is)
    (case xcis_NoBody => k_is)
    (case xcself_NoBody => k_is)
    (case xcex_NoBody => k_exc)
    (case xca_ScrollError => k_is)
    (case xchg_ScrollError => k_is)
    (case xchk_ScrollError => k_is)
    (case xchs_ScrollError => k_is)
    (case xchd_ScrollError => k_is)
    (case xcha_ScrollError => k_is)
    (case xchm_ScrollError => k_is)
    (case xcty_ScrollError => k_is)
    (case xckp_ScrollError => k_is)
    (case xcve_ScrollError => k_is)
    (case xcis_ScrollError => k_is)
    (case xcself_ScrollError => k_is)
    (case xcex_ScrollError => k_exc)
    (case xca_NoBytes => k_is)
    (case xchg_NoBytes => k_is)
    (case xchk_NoBytes => k_is)
    (case xchs_NoBytes => k_is)
    (case xchd_NoBytes => k_is)
    (case xcha_NoBytes => k_is)
    (case xchm_NoBytes => k_is)
    (case xcty_NoBytes => k_is)
    (case xckp_NoBytes => k_is)
    (case xcve_NoBytes => k_is)
    (case xcis_NoBytes => k_is)
    (case xcself_NoBytes => k_is)
    (case xcex_NoBytes => k_exc)
    (case xca_NoLeaf => k_is)
    (case xchg_NoLeaf => k_is)
    (case xchk_NoLeaf => k_is)
    (case xchs_NoLeaf => k_is)
    (case xchd_NoLeaf => k_is)
    (case xcha_NoLeaf => k_is)
    (case xchm_NoLeaf => k_is)
    (case xcty_NoLeaf => k_is)
    (case xckp_NoLeaf => k_is)
    (case xcve_NoLeaf => k_is)
    (case xcis_NoLeaf => k_is)
    (case xcself_NoLeaf => k_is)
    (case xcex_NoLeaf => k_exc)
    (case cg_NOUGHT => k_is)
    (case cl_NOUGHT => k_is)
    (case cg_GREATEST => k_is)
    (case cg_HEAD => k_is)
    (case cg_PIECE => k_is)
    (case cg_INDEX => k_is)
    (case p_NoBody_NoBody => k_is)
    (case p_NoBody_NoBytes => k_is)
    (case p_NoBody_NoLeaf => k_is)
    (case p_NoBody_NoNumber => k_is)
    (case xhn => k_is)
    (case xht => k_is)
    (case z_abs => k_is)
    (case z_isinstance => k_is)
    (case z_int => k_is)
    (case z_bool => k_is)
    (case z_tuple => k_is)
    (case z_len => k_is)
    (case z_list => k_is)
    (case z_all => k_is)
    (case z_max => k_is)
    (case z_range => k_is)
