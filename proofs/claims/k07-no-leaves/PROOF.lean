import PyProof.Rows.All
import Wide.All
import OpenK.AllK
import Wide.FinOn
import HandS.ForMost
import HandS.Evl
import HandS.IsInst
import HandS.Flow
import HandS.Defaults
import HandS.Wide
import HandS.WideMore
import HandS.Style
import HandS.ForExc
import HandS.TryOnly
import HandS.CallSlots
import HandS.ExcIs
import HandS.Walk
import HandS.Iter
import HandS.More
import HandS.TryMany
import HandS.ClsMeth
import HandS.TupAny
import HandS.SortKw
import PySem.Challenge.RW_lanescroll_k07_no_leaves
set_option Elab.async false
set_option linter.all false
set_option maxRecDepth 100000
set_option maxHeartbeats 2000000
namespace Y
open PySem PySem.Spec PyProof.Rows
open L2

/-- data: what a value stands for, through the heap -/
inductive D where
  | non | bl (b : Bool) | int (i : Int) | str (x : Str)
  | lst (ds : List D) | tup (ds : List D) | dic (kvs : List (Key × D))
  | obj (nm : Str) (fs : List (Str × D))

/-- a class of the text: its name, its address; what isinstance asks -/
structure KC (K : PySem.W.Frag) (nm : Str) (C : Addr) : Prop where
  a : PySem.W.nsIn K mainGlobals nm = some (some (.ref C))
  c : Cls K C
  ha : PySem.W.findIn K (.ref C) "__class__" = some (some (.builtin "object.__class__"))
  hn : PySem.W.specialIn K (.builtin "object.__class__") "__get__" = some (some (.builtin "getset_descriptor.__get__"))
  ht : PySem.W.takesIn K (.builtin "object.__class__") = some true
  hm : PySem.W.mroIn K C (.type "object") = some true
  bt : ∀ t ∈ ["bool", "int", "str", "list", "tuple", "dict"], PySem.W.subIn K (.ref C) (.type t) = some false

abbrev Ex (H H' : Hp) : Prop := ∀ a o, H a = some o → H' a = some o
theorem Ex.refl (H : Hp) : Ex H H := fun _ _ h => h
theorem Ex.trans {H H1 H2 : Hp} (a : Ex H H1) (b : Ex H1 H2) : Ex H H2 := fun x o h => b x o (a x o h)
theorem Ex.new {H : Hp} {p : Addr} {o : HO} (h : H p = none) : Ex H (upd H p o) := fun a u e => by
  rw [upd_ne (ne_of_none e h)]
  exact e
theorem Ex.upd {B H : Hp} {p : Addr} {o : HO} (e : Ex B H) (h : B p = none) : Ex B (upd H p o) := fun a u ha => by
  rw [upd_ne (ne_of_none ha h)]
  exact e a u ha
theorem Ex.both {B H : Hp} {p : Addr} {o : HO} (e : Ex B H) : Ex (L2.upd B p o) (L2.upd H p o) := fun a u ha => by
  by_cases q : a = p
  · subst q; rw [upd_same] at ha; cases ha; exact upd_same
  · rw [upd_ne q] at ha; rw [upd_ne q]; exact e a u ha
theorem Ex.none {H H' : Hp} {p : Addr} (e : Ex H H') (h : H' p = none) : H p = none := by
  cases h1 : H p with
  | none => rfl
  | some o => rw [e p o h1] at h; cases h
theorem Ex.rd {H H' : Hp} {a : Addr} {u : HO} (e : Ex H H') (h : Rd H a u) : Rd H' a u := by
  rcases h with h | ⟨o, h⟩
  · exact Or.inl (e a _ h)
  · exact Or.inr ⟨o, e a _ h⟩
theorem Ex.l {K : PySem.W.Frag} {H H' : Hp} {a : Addr} {xs : List V} (e : Ex H H') (h : SqL K H a xs) : SqL K H' a xs := by
  rcases h with h | h
  · exact Or.inl (e.rd h)
  · exact Or.inr h
theorem Ex.t {K : PySem.W.Frag} {H H' : Hp} {a : Addr} {xs : List V} (e : Ex H H') (h : SqT K H a xs) : SqT K H' a xs := by
  rcases h with h | h
  · exact Or.inl (e.rd h)
  · exact Or.inr h

mutual
/-- v stands for d -/
inductive Rep (K : PySem.W.Frag) (B : Hp) : V → D → Prop where
  | non : Rep K B .non .non
  | bl (b : Bool) : Rep K B (.bl b) (.bl b)
  | int (i : Int) : Rep K B (.int i) (.int i)
  | str (x : Str) : Rep K B (.str x) (.str x)
  | lst {p : Addr} {xs : List V} {ds : List D} (h : SqL K B p xs) (r : RepL K B xs ds) : Rep K B (.ref p) (.lst ds)
  | tup {p : Addr} {xs : List V} {ds : List D} (h : SqT K B p xs) (r : RepL K B xs ds) : Rep K B (.ref p) (.tup ds)
  | dic {p : Addr} {kvs : List (Key × V)} {ds : List (Key × D)} (h : B p = some (.dK kvs)) (r : RepK K B kvs ds) : Rep K B (.ref p) (.dic ds)
  | obj {p C dx : Addr} {nm : Str} {fs : List (Str × V)} {ds : List (Str × D)} (h : B p = some (.ins C dx fs)) (k : KC K nm C) (r : RepF K B fs ds) : Rep K B (.ref p) (.obj nm ds)
inductive RepL (K : PySem.W.Frag) (B : Hp) : List V → List D → Prop where
  | nil : RepL K B [] []
  | cons {v : V} {d : D} {vs : List V} {ds : List D} (h : Rep K B v d) (t : RepL K B vs ds) : RepL K B (v :: vs) (d :: ds)
inductive RepK (K : PySem.W.Frag) (B : Hp) : List (Key × V) → List (Key × D) → Prop where
  | nil : RepK K B [] []
  | cons {k : Key} {v : V} {d : D} {vs : List (Key × V)} {ds : List (Key × D)} (h : Rep K B v d) (t : RepK K B vs ds) : RepK K B ((k, v) :: vs) ((k, d) :: ds)
inductive RepF (K : PySem.W.Frag) (B : Hp) : List (Str × V) → List (Str × D) → Prop where
  | nil : RepF K B [] []
  | cons {k : Str} {v : V} {d : D} {vs : List (Str × V)} {ds : List (Str × D)} (h : Rep K B v d) (t : RepF K B vs ds) : RepF K B ((k, v) :: vs) ((k, d) :: ds)
end
section
variable {K : PySem.W.Frag} {B B' H : Hp}
mutual
theorem Rep.mono (e : Ex B B') : ∀ {v : V} {d : D}, Rep K B v d → Rep K B' v d
  | _, _, .non => .non
  | _, _, .bl b => .bl b
  | _, _, .int i => .int i
  | _, _, .str x => .str x
  | _, _, .lst h r => .lst (e.l h) (RepL.mono e r)
  | _, _, .tup h r => .tup (e.t h) (RepL.mono e r)
  | _, _, .dic h r => .dic (e _ _ h) (RepK.mono e r)
  | _, _, .obj h k r => .obj (e _ _ h) k (RepF.mono e r)
theorem RepL.mono (e : Ex B B') : ∀ {vs : List V} {ds : List D}, RepL K B vs ds → RepL K B' vs ds
  | _, _, .nil => .nil
  | _, _, .cons h t => .cons (Rep.mono e h) (RepL.mono e t)
theorem RepK.mono (e : Ex B B') : ∀ {vs : List (Key × V)} {ds : List (Key × D)}, RepK K B vs ds → RepK K B' vs ds
  | _, _, .nil => .nil
  | _, _, .cons h t => .cons (Rep.mono e h) (RepK.mono e t)
theorem RepF.mono (e : Ex B B') : ∀ {vs : List (Str × V)} {ds : List (Str × D)}, RepF K B vs ds → RepF K B' vs ds
  | _, _, .nil => .nil
  | _, _, .cons h t => .cons (Rep.mono e h) (RepF.mono e t)
end
theorem RepL.length : ∀ {vs : List V} {ds : List D}, RepL K B vs ds → vs.length = ds.length
  | _, _, .nil => rfl
  | _, _, .cons _ t => congrArg Nat.succ (RepL.length t)
theorem RepL.get : ∀ {vs : List V} {ds : List D} {i : Nat} {d : D}, RepL K B vs ds → ds[i]? = some d → ∃ v, vs[i]? = some v ∧ Rep K B v d
  | _, _, _, _, .nil, e => by simp at e
  | _, _, 0, _, .cons r _, e => by simp at e; subst e; exact ⟨_, rfl, r⟩
  | _, _, i + 1, x, .cons _ t, e => by
    obtain ⟨u, h1, h2⟩ := RepL.get (i := i) (d := x) t (by simpa using e)
    exact ⟨u, by simpa using h1, h2⟩
theorem RepL.append : ∀ {vs ws : List V} {ds es : List D}, RepL K B vs ds → RepL K B ws es → RepL K B (vs ++ ws) (ds ++ es)
  | _, _, _, _, .nil, s => s
  | _, _, _, _, .cons r t, s => .cons r (RepL.append t s)
theorem RepL.at {vs : List V} {ds : List D} {i : Int} {d : D} (r : RepL K B vs ds) (h : atI ds i = some d) : ∃ v, atI vs i = some v ∧ Rep K B v d := by
  unfold atI at h ⊢
  rw [r.length]
  cases e : ixN ds.length i with
  | none => rw [e] at h; cases h
  | some j => rw [e] at h; exact r.get h
theorem RepL.ints : ∀ (ns : List Int), RepL K B (ns.map V.int) (ns.map D.int)
  | [] => .nil
  | n :: r => .cons (.int n) (RepL.ints r)
theorem RepL.of_ints : ∀ {vs : List V} {ns : List Int}, RepL K B vs (ns.map D.int) → vs = ns.map V.int
  | [], [], _ => rfl
  | _ :: _, [], r => nomatch r
  | [], _ :: _, r => nomatch r
  | v :: vs, n :: ns, r => by
    cases r with
    | cons h t =>
      cases h
      rw [RepL.of_ints t]
      rfl
end

/-- from (B, H), what is known and the heap, to (B', H'), writing at most at W -/
structure Stp (W : List Addr) (B H B' H' : Hp) : Prop where
  ex : Ex B B'
  ok : Ex B' H'
  fr : ∀ a o, a ∉ W → H a = some o → H' a = some o
  al : ∀ a o, H a = some o → ∃ o', H' a = some o'
  nw : ∀ a o, B a = none → H a = some o → B' a = none
section
variable {W W' : List Addr} {B H B' H' B1 H1 B2 H2 : Hp} {p : Addr} {o : HO}
theorem Stp.refl (w : Ex B H) : Stp W B H B H := ⟨Ex.refl B, w, fun _ _ _ h => h, fun _ o h => ⟨o, h⟩, fun _ _ h _ => h⟩
theorem Stp.trans (a : Stp W B H B1 H1) (b : Stp W B1 H1 B2 H2) : Stp W B H B2 H2 :=
  ⟨a.ex.trans b.ex, b.ok, fun x o hx h => b.fr x o hx (a.fr x o hx h), fun x o h => let ⟨o1, h1⟩ := a.al x o h; b.al x o1 h1, fun x o hb h => let ⟨o1, h1⟩ := a.al x o h; b.nw x o1 (a.nw x o hb h) h1⟩
theorem Stp.w (a : Stp W B H B1 H1) (h : ∀ x, x ∈ W → x ∈ W') : Stp W' B H B1 H1 := ⟨a.ex, a.ok, fun x o hx e => a.fr x o (fun z => hx (h x z)) e, a.al, a.nw⟩
theorem Stp.w0 (a : Stp [] B H B1 H1) : Stp W B H B1 H1 := a.w fun _ h => nomatch h
/-- a new object that stays -/
theorem Stp.new (w : Ex B H) (h : H p = none) : Stp W B H (upd B p o) (upd H p o) :=
  ⟨Ex.new (w.none h), w.both, fun a u _ e => Ex.new h a u e, fun a u e => ⟨u, Ex.new h a u e⟩, fun a u hb e => by rw [upd_ne (ne_of_none e h)]; exact hb⟩
/-- a new object that may change -/
theorem Stp.newM (w : Ex B H) (h : H p = none) : Stp W B H B (upd H p o) :=
  ⟨Ex.refl B, w.upd (w.none h), fun a u _ e => Ex.new h a u e, fun a u e => ⟨u, Ex.new h a u e⟩, fun a u hb _ => hb⟩
/-- a changed object of W -/
theorem Stp.set (w : Ex B H) (hp : p ∈ W) (hb : B p = none) {u : HO} (hu : H p = some u) : Stp W B H B (upd H p o) :=
  ⟨Ex.refl B, w.upd hb, fun a u hx e => by rw [upd_ne (fun z => hx (by rw [z]; exact hp))]; exact e, fun a u e => by
    by_cases q : a = p
    · subst q; exact ⟨o, upd_same⟩
    · exact ⟨u, by rw [upd_ne q]; exact e⟩, fun _ _ h _ => h⟩
/-- an object of our own, made behind the entry, changed -/
theorem Stp.own (a : Stp W B H B1 H1) (h0 : H p = none) (hb : B1 p = none) (h : ∃ u, H1 p = some u) : Stp W B H B1 (upd H1 p o) :=
  ⟨a.ex, a.ok.upd hb, fun x u hx e => by rw [upd_ne (ne_of_none e h0)]; exact a.fr x u hx e, fun x u e => by
    rw [upd_ne (ne_of_none e h0)]; exact a.al x u e, a.nw⟩
/-- an object of our own turns into one that stays -/
theorem Stp.keep (w : Ex B H) (a : Stp W B H B1 H1) (h0 : H p = none) (hb : B1 p = none) (h : H1 p = some o) : Stp W B H (upd B1 p o) H1 :=
  ⟨fun x u e => by rw [upd_ne (ne_of_none e (w.none h0))]; exact a.ex x u e, fun x u e => by
    by_cases q : x = p
    · subst q; rw [upd_same] at e; cases e; exact h
    · rw [upd_ne q] at e; exact a.ok x u e, a.fr, a.al, fun x u hb e => by rw [upd_ne (ne_of_none e h0)]; exact a.nw x u hb e⟩
end
/-! ### mirrors -/
/-- an error that is raised: the class's name, what it is told -/
structure Err where
  cls : Str
  args : List D := []
/-- what a mirror gives: a value, an error, or a place that the model does not serve -/
inductive Res (α : Type) where
  | ok (a : α) | err (e : Err) | stuck
def Res.bind {α β : Type} (m : Res α) (k : α → Res β) : Res β := match m with | .ok a => k a | .err e => .err e | .stuck => .stuck
/-- an error that nobody waits for -/
def Res.noErr {α : Type} (m : Res α) : Res α := match m with | .ok a => .ok a | _ => .stuck
instance : Monad Res where
  pure := Res.ok
  bind := Res.bind
def Post0 {α : Type} (m : Res α) (P : α → Prop) (R : Err → Prop) : Prop := match m with | .ok a => P a | .err e => R e | .stuck => False
/-- what the mirror gives is wished for: a structure, so that nothing looks into it -/
structure Post {α : Type} (m : Res α) (P : α → Prop) (R : Err → Prop) : Prop where
  h0 : Post0 m P R
section
variable {α β : Type} {m : Res α} {P P' : α → Prop} {R R' : Err → Prop} {a : α}
theorem Post.mono (h : Post m P R) (hp : ∀ a, P a → P' a) (hr : ∀ e, R e → R' e) : Post m P' R' := by
  obtain ⟨h⟩ := h
  refine ⟨?_⟩
  cases m with
  | ok a => exact hp a h
  | err e => exact hr e h
  | stuck => exact h
theorem Post.bind {k : α → Res β} {P : β → Prop} (h : Post (m.bind k) P R) : Post m (fun a => Post (k a) P R) R := by
  obtain ⟨h⟩ := h
  refine ⟨?_⟩
  cases m
  · exact ⟨h⟩
  · exact h
  · exact h
theorem Post.noErr (h : Post m.noErr P R) : Post m P (fun _ => False) := by
  obtain ⟨h⟩ := h
  refine ⟨?_⟩
  cases m with
  | ok a => exact h
  | err e => exact h
  | stuck => exact h
theorem Post.ok (h : Post (.ok a) P R) : P a := h.h0
theorem Post.err {e : Err} (h : Post (.err e : Res α) P R) : R e := h.h0
theorem Post.elim {C : Prop} (h : Post (.stuck : Res α) P R) : C := False.elim h.h0
theorem Post.mk' (h : P a) : Post (.ok a) P R := ⟨h⟩
theorem Post.iteT {c : Bool} {m m' : Res α} (h : Post (if c = true then m else m') P R) (hc : c = true) : Post m P R := by
  rw [if_pos hc] at h; exact h
theorem Post.iteF {c : Bool} {m m' : Res α} (h : Post (if c = true then m else m') P R) (hc : c = false) : Post m' P R := by
  rw [hc, if_neg Bool.false_ne_true] at h; exact h
theorem Post.is {m' : Res α} (h : Post m P R) (e : m = m') : Post m' P R := e ▸ h
end
/-- an item -/
def ixR {α : Type} (l : List α) (i : Int) : Res α := match atI l i with | some x => .ok x | none => .stuck
theorem Post.ix {α β : Type} {l : List α} {i : Int} {k : α → Res β} {P : β → Prop} {R : Err → Prop} (h : Post ((ixR l i).bind k) P R) : ∃ x, atI l i = some x ∧ Post (k x) P R := by
  unfold ixR at h
  cases e : atI l i with
  | none => rw [e] at h; exact h.elim
  | some x => rw [e] at h; exact ⟨x, rfl, h⟩
/-- where c holds -/
def guardR {α : Type} (c : Prop) [Decidable c] (m : Res α) : Res α := if c then m else .stuck
theorem Post.guard {α : Type} {c : Prop} [Decidable c] {m : Res α} {P : α → Prop} {R : Err → Prop} (h : Post (guardR c m) P R) : c ∧ Post m P R := by
  unfold guardR at h
  by_cases e : c
  · rw [if_pos e] at h; exact ⟨e, h⟩
  · rw [if_neg e] at h; exact h.elim
instance (i j : Int) : Decidable (CMulW i j) := by unfold CMulW; infer_instance
instance (i j : Int) : Decidable (CDivW i j) := by unfold CDivW; infer_instance
/-- a loop's turn: on, or a value that is returned, or out -/
inductive Fl (S R : Type) where
  | nx (s : S) | rt (r : R) | bk (s : S)
def forR {α S R : Type} : List α → S → (α → S → Res (Fl S R)) → Res (Fl S R)
  | [], s, _ => .ok (.nx s)
  | x :: xs, s, f => (f x s).bind fun r => match r with | .nx s' => forR xs s' f | r => .ok r
theorem Post.forS {α S R : Type} {l : List α} {i : Nat} {s : S} {f : α → S → Res (Fl S R)} {P : Fl S R → Prop} {E : Err → Prop} {x : α} (h : Post (forR (l.drop i) s f) P E) (hx : l[i]? = some x) :
    Post (f x s) (fun r => match r with | .nx s' => Post (forR (l.drop (i + 1)) s' f) P E | .rt v => P (.rt v) | .bk s' => P (.bk s')) E := by
  obtain ⟨hi, e⟩ := List.getElem?_eq_some_iff.mp hx
  rw [List.drop_eq_getElem_cons hi, e] at h
  exact (Post.bind h).mono (fun r q => by
    cases r
    · exact q
    · exact q.ok
    · exact q.ok) fun _ q => q
theorem Post.forN {α S R : Type} {l : List α} {i : Nat} {s : S} {f : α → S → Res (Fl S R)} {P : Fl S R → Prop} {E : Err → Prop} (h : Post (forR (l.drop i) s f) P E) (hi : l.length ≤ i) : P (.nx s) := by
  rw [List.drop_eq_nil_of_le hi] at h
  exact h.ok

/-! ### what stands for data -/
class Enc (α : Type) where
  enc : α → D
open Enc (enc)
structure Tp1 (α : Type) where
  a : α
structure Tp2 (α β : Type) where
  a : α
  b : β
structure Tp3 (α β γ : Type) where
  a : α
  b : β
  c : γ
structure Tp4 (α β γ δ : Type) where
  a : α
  b : β
  c : γ
  d : δ
structure Tp5 (α β γ δ ε : Type) where
  a : α
  b : β
  c : γ
  d : δ
  e : ε
instance : Enc Int := ⟨.int⟩
instance : Enc Bool := ⟨.bl⟩
instance : Enc Str := ⟨.str⟩
instance : Enc Unit := ⟨fun _ => .non⟩
instance : Enc D := ⟨id⟩
instance {α : Type} [Enc α] : Enc (List α) := ⟨fun l => .lst (l.map enc)⟩
instance {α : Type} [Enc α] : Enc (Option α) := ⟨fun o => match o with | some x => enc x | none => .non⟩
instance {α : Type} [Enc α] : Enc (Tp1 α) := ⟨fun t => .tup [enc t.a]⟩
instance {α β : Type} [Enc α] [Enc β] : Enc (Tp2 α β) := ⟨fun t => .tup [enc t.a, enc t.b]⟩
instance {α β γ : Type} [Enc α] [Enc β] [Enc γ] : Enc (Tp3 α β γ) := ⟨fun t => .tup [enc t.a, enc t.b, enc t.c]⟩
instance {α β γ δ : Type} [Enc α] [Enc β] [Enc γ] [Enc δ] : Enc (Tp4 α β γ δ) := ⟨fun t => .tup [enc t.a, enc t.b, enc t.c, enc t.d]⟩
instance {α β γ δ ε : Type} [Enc α] [Enc β] [Enc γ] [Enc δ] [Enc ε] : Enc (Tp5 α β γ δ ε) := ⟨fun t => .tup [enc t.a, enc t.b, enc t.c, enc t.d, enc t.e]⟩

/-- a list that may change: at p, outside of what is known for good -/
def Mu (K : PySem.W.Frag) (B H : Hp) (p : Addr) (ds : List D) : Prop := B p = none ∧ ∃ xs, H p = some (.lst xs) ∧ RepL K B xs ds
/-- a list that stands in the written part -/
def KL (K : PySem.W.Frag) (a : Addr) (xs : List V) : Prop := ∃ (o : Obj) (its : Array Value) (n : Nat), K.lookup a = some o ∧ o.cls = .type "list" ∧ o.dict = none ∧ o.data = .seq its n ∧ its.size ≤ sizeLine ∧ Vals xs its.toList
/-- a list that is read: at v now -/
def Bor (K : PySem.W.Frag) (B H : Hp) (W : List Addr) (v : V) (ds : List D) : Prop := ∃ p xs, v = .ref p ∧ ((Rd H p (.lst xs) ∧ p ∉ W) ∨ KL K p xs) ∧ RepL K B xs ds
/-- what a return hands on -/
def Ret (K : PySem.W.Frag) (W : List Addr) (B H : Hp) (d : D) (Q : VK) : Prop := ∀ v B' H', Stp W B H B' H' → Rep K B' v d → Q v H'
/-- .. where the list at p may have changed -/
def RetM (K : PySem.W.Frag) (p : Addr) (B H : Hp) (d : D) (ds : List D) (Q : VK) : Prop := ∀ v B' H', Stp [p] B H B' H' → Mu K B' H' p ds → Rep K B' v d → Q v H'
/-- .. that is raised -/
def Rai (mg : Str → Option Value) (W : List Addr) (B H : Hp) (e : Err) (E : XK) : Prop := ∀ C B' H', mg e.cls = some (.ref C) → Stp W B H B' H' → E (.ref C) none H'
section
variable {K : PySem.W.Frag} {B B' B1 H H' H1 : Hp} {W : List Addr} {p q : Addr} {ds es : List D} {xs : List V} {d : D} {v : V} {Q : VK} {mg : Str → Option Value} {E : XK}
theorem Mu.step (m : Mu K B H p ds) (s : Stp W B H B' H') (h : p ∉ W) : Mu K B' H' p ds := by
  obtain ⟨hb, xs, hp, r⟩ := m
  exact ⟨s.nw p _ hb hp, xs, s.fr p _ h hp, r.mono s.ex⟩
theorem Mu.new (w : Ex B H) (h : H p = none) (r : RepL K B xs ds) : Mu K B (upd H p (.lst xs)) p ds := ⟨w.none h, xs, upd_same, r⟩
theorem Mu.bor (m : Mu K B H p ds) (h : p ∉ W) : Bor K B H W (.ref p) ds := by
  obtain ⟨hb, xs, hp, r⟩ := m
  exact ⟨p, xs, rfl, .inl ⟨.inl hp, h⟩, r⟩
theorem Mu.ne (m : Mu K B H p ds) (h : H q = none) : p ≠ q := by
  obtain ⟨hb, xs, hp, r⟩ := m
  exact ne_of_none hp h
theorem Bor.step (m : Bor K B H W v ds) (s : Stp W B H B' H') : Bor K B' H' W v ds := by
  obtain ⟨p, xs, e, hp, r⟩ := m
  refine ⟨p, xs, e, ?_, r.mono s.ex⟩
  rcases hp with ⟨hp | ⟨o, hp⟩, hw⟩ | hp
  · exact .inl ⟨.inl (s.fr p _ hw hp), hw⟩
  · exact .inl ⟨.inr ⟨o, s.fr p _ hw hp⟩, hw⟩
  · exact .inr hp
theorem Bor.w {W' : List Addr} (m : Bor K B H W v ds) (h : ∀ x, x ∈ W' → x ∈ W) : Bor K B H W' v ds := by
  obtain ⟨p, xs, e, hp, r⟩ := m
  refine ⟨p, xs, e, ?_, r⟩
  rcases hp with ⟨hp, hw⟩ | hp
  · exact .inl ⟨hp, fun z => hw (h p z)⟩
  · exact .inr hp
theorem Bor.sq (m : Bor K B H W v ds) : ∃ p xs, v = .ref p ∧ SqL K H p xs ∧ RepL K B xs ds := by
  obtain ⟨p, xs, e, hp, r⟩ := m
  refine ⟨p, xs, e, ?_, r⟩
  rcases hp with ⟨hp, _⟩ | hp
  · exact .inl hp
  · exact .inr hp
theorem Rep.bor (w : Ex B H) (r : Rep K B v (.lst ds)) (h : ∀ x, x ∈ W → B x = none) : Bor K B H W v ds := by
  cases r with
  | @lst p xs _ hp r =>
    refine ⟨p, xs, rfl, ?_, r⟩
    rcases hp with hp | hp
    · refine .inl ⟨w.rd hp, fun z => ?_⟩
      have e := h p z
      rcases hp with hp | ⟨o, hp⟩
      · rw [hp] at e; cases e
      · rw [hp] at e; cases e
    · exact .inr hp
theorem Rep.bor0 (w : Ex B H) (r : Rep K B v (.lst ds)) : Bor K B H [] v ds := r.bor w (fun _ z => nomatch z)
theorem Rep.sq (w : Ex B H) (r : Rep K B v (.lst ds)) : ∃ p xs, v = .ref p ∧ SqL K H p xs ∧ RepL K B xs ds := by
  cases r with
  | @lst p xs _ hp r => exact ⟨p, xs, rfl, w.l hp, r⟩
theorem Rep.st (w : Ex B H) (r : Rep K B v (.tup ds)) : ∃ p xs, v = .ref p ∧ SqT K H p xs ∧ RepL K B xs ds := by
  cases r with
  | @tup p xs _ hp r => exact ⟨p, xs, rfl, w.t hp, r⟩
theorem Mu.sq (m : Mu K B H p ds) : ∃ xs, H p = some (.lst xs) ∧ SqL K H p xs ∧ RepL K B xs ds := by
  obtain ⟨hb, xs, hp, r⟩ := m
  exact ⟨xs, hp, SqL.of hp, r⟩
theorem Stp.mut (w : Ex B H) (m : Mu K B H p ds) (r : RepL K B xs es) : Stp [p] B H B (upd H p (.lst xs)) ∧ Mu K B (upd H p (.lst xs)) p es := by
  obtain ⟨hb, ys, hp, _⟩ := m
  exact ⟨Stp.set w (by simp) hb hp, hb, xs, upd_same, r⟩
end
/-- the built-in type of a thing -/
def tyD : D → String
  | .non => "NoneType" | .bl _ => "bool" | .int _ => "int" | .str _ => "str" | .lst _ => "list" | .tup _ => "tuple" | .dic _ => "dict" | .obj _ _ => "object"
def isObjD : D → Bool | .obj _ _ => true | _ => false
theorem Rep.ty {K : PySem.W.Frag} {B H : Hp} {v : V} {d : D} (w : Ex B H) (r : Rep K B v d) (hd : isObjD d = false) : TyX K H v (.type (tyD d)) := by
  cases r with
  | obj h k r => exact nomatch hd
  | non => exact .base .non
  | bl b => exact .base (.bl b)
  | int i => exact .base (.int i)
  | str x => exact .base (.str x)
  | lst h r =>
    rcases h with (h | ⟨o, h⟩) | ⟨o, its, n, h, hc, _⟩
    · exact .base (.lst (w _ _ h))
    · exact .base (.frz (w _ _ h))
    · exact .kList h hc
  | tup h r =>
    rcases h with (h | ⟨o, h⟩) | ⟨o, its, n, h, hc, _⟩
    · exact .base (.tup (w _ _ h))
    · exact .fTuple (w _ _ h)
    · exact .kTuple h hc
  | dic h r => exact .base (.dK (w _ _ h))
def isS (s t : String) : Bool := s == t || (s == "bool" && t == "int")
def isA (t : String) (d : D) : Bool := isS (tyD d) t
theorem kit_tab : ∀ s ∈ ["NoneType", "bool", "int", "str", "list", "tuple", "dict"], ∀ t ∈ ["bool", "int", "str", "list", "tuple", "dict"], kitB s t = some (isS s t) := by decide +kernel
theorem tyD_in (d : D) (hd : isObjD d = false) : tyD d ∈ ["NoneType", "bool", "int", "str", "list", "tuple", "dict"] := by
  cases d
  case obj => exact nomatch hd
  all_goals simp [tyD]
theorem isS_obj : ∀ t ∈ ["bool", "int", "str", "list", "tuple", "dict"], isS "object" t = false := by decide +kernel
theorem meta_tab : ∀ t ∈ ["bool", "int", "str", "list", "tuple", "dict"], PySem.W.kitMeta t = true := by decide +kernel
theorem KC.kit {K : PySem.W.Frag} {nm : Str} {C : Addr} (k : KC K nm C) {t : String} (ht : t ∈ ["bool", "int", "str", "list", "tuple", "dict"]) : PySem.W.kitOne K (.ref C) (.type t) = some false := by
  unfold PySem.W.kitOne
  rw [if_neg (by simp)]
  show (if PySem.W.kitMeta t = true then PySem.W.subIn K (.ref C) (.type t) else none) = some false
  rw [if_pos (meta_tab t ht)]
  exact k.bt t ht
theorem KC.tyx {K : PySem.W.Frag} {nm : Str} {C p dx : Addr} {H : Hp} {fs : List (Str × V)} (k : KC K nm C) (h : H p = some (.ins C dx fs)) : TyX K H (.ref p) (.ref C) := .base (.ins h k.c k.ha k.hn k.ht k.hm)
/-- isinstance(x, int | bool | str | list | tuple | dict) -/
theorem isi {K : PySem.W.Frag} {B H : Hp} {v : V} {d : D} {t : String} {Q : VK} (w : Ex B H) (r : Rep K B v d) (q : Q (.bl (isA t d)) H) (ht : t ∈ ["bool", "int", "str", "list", "tuple", "dict"] := by simp) : rIsi K [v, .ty t] H Q := by
  by_cases hd : isObjD d = true
  · cases r with
    | @obj p C dx nm fs ds h k r =>
      have e : isA t (.obj nm ds) = false := isS_obj t ht
      rw [e] at q
      exact ⟨_, .ty t, .ref C, .type t, false, rfl, .ty t, k.tyx (w _ _ h), k.kit ht, q⟩
    | _ => exact nomatch hd
  · have hd := Bool.eq_false_iff.mpr hd
    exact ⟨v, .ty t, _, .type t, isA t d, rfl, .ty t, r.ty w hd, kit_ty (kit_tab _ (tyD_in d hd) _ ht), q⟩
theorem boot_bool : bootBuiltins "bool" = some (.type "bool") := by decide +kernel
theorem boot_int : bootBuiltins "int" = some (.type "int") := by decide +kernel
theorem boot_str : bootBuiltins "str" = some (.type "str") := by decide +kernel
theorem boot_list : bootBuiltins "list" = some (.type "list") := by decide +kernel
theorem boot_tuple : bootBuiltins "tuple" = some (.type "tuple") := by decide +kernel
theorem boot_dict : bootBuiltins "dict" = some (.type "dict") := by decide +kernel

/-! ### readings, step by step -/
def NwL (xs : List V) (H : Hp) (Q : VK) : Prop := ∀ p, H p = none → Q (.ref p) (upd H p (.lst xs))
def NwT (xs : List V) (H : Hp) (Q : VK) : Prop := ∀ p, H p = none → Q (.ref p) (upd H p (.tup xs))
def NewL (xs : List V) (H : Hp) (Q : VK) : Prop := xs.length ≤ sizeLine ∧ NwL xs H Q
def NewT (xs : List V) (H : Hp) (Q : VK) : Prop := xs.length ≤ sizeLine ∧ NwT xs H Q
section
variable {K : PySem.W.Frag} {σ σ' : L2.St} {H : Hp} {Q : VK} {D' : Ends} {te ta tb tc : TE} {tt tt' : TT} {t u z : TS} {tl : TA} {v x y : V} {i j : Int} {n : Nat} {r r' : R2} {W : List Addr}
theorem h_seq (h : t { D' with nx := u D' } σ H) : tSeq t u D' σ H := h
theorem h_set (h : te σ H fun x H1 => u D' (σ.set n (some x)) H1) : tSeq (tAsg te (gName n)) u D' σ H := h
theorem h_set1 (h : te σ H fun x H1 => D'.nx (σ.set n (some x)) H1) : tAsg te (gName n) D' σ H := h
theorem h_nrm {T : L2.St → Hp → Prop} (h : T σ' H) (e : σ' = σ := by rfl) : T σ H := e ▸ h
theorem h_drop (h : te σ H fun _ H1 => D'.nx σ H1) : tDrop te D' σ H := h
theorem h_ret (h : te σ H D'.rt) : tRet te D' σ H := h
theorem h_if {c : TT} (h : c σ H fun b H1 => if b = true then t D' σ H1 else u D' σ H1) : tIfS c t u D' σ H := h
theorem h_next (h : D'.nx σ H) : tNext D' σ H := h
theorem h_nx {a c d : L2.St → Hp → Prop} {b : VK} (h : a σ H) : (Ends.mk a b c d).nx σ H := h
theorem h_var (e : σ[n]? = some (some v)) (h : Q v H) : tVar n σ H Q := ⟨v, e, h⟩
theorem h_c (h : Q v H) : tC v σ H Q := h
theorem h_op (h : ta σ H fun x H1 => tb σ H1 fun y H2 => r x y H2 Q) : tOp r ta tb σ H Q := h
theorem h_I0 {g : Int → Int → V} (h : Q (g i j) H) : rI0 g (.int i) (.int j) H Q := ⟨i, j, rfl, rfl, h⟩
theorem h_I {C : Int → Int → Prop} {g : Int → Int → V} (c : C i j) (h : Q (g i j) H) : rI C g (.int i) (.int j) H Q := ⟨i, j, rfl, rfl, c, h⟩
theorem h_un {f : V → Hp → VK → Prop} (h : ta σ H fun x H1 => f x H1 Q) : tUn f ta σ H Q := h
theorem h_U {g : Int → V} (h : Q (g i) H) : rU g (.int i) H Q := ⟨i, rfl, h⟩
theorem h_eq (s : scal x y = true) (h : Q (.bl (decide (x = y))) H) : rEq x y H Q := ⟨s, h⟩
theorem h_ne (s : scal x y = true) (h : Q (.bl (!decide (x = y))) H) : rNe x y H Q := ⟨s, h⟩
theorem dec_i : decide (V.int i = V.int j) = decide (i = j) := by simp
theorem dec_b {i j : Bool} : decide (V.bl i = V.bl j) = decide (i = j) := by simp
theorem dec_s {i j : Str} : decide (V.str i = V.str j) = decide (i = j) := by simp
theorem h_eqI (h : Q (.bl (decide (i = j))) H) : rEq (.int i) (.int j) H Q := ⟨rfl, by rw [dec_i]; exact h⟩
theorem h_neI (h : Q (.bl (!decide (i = j))) H) : rNe (.int i) (.int j) H Q := ⟨rfl, by rw [dec_i]; exact h⟩
theorem h_eqS {i j : Str} (h : Q (.bl (decide (i = j))) H) : rEq (.str i) (.str j) H Q := ⟨rfl, by rw [dec_s]; exact h⟩
theorem h_neS {i j : Str} (h : Q (.bl (!decide (i = j))) H) : rNe (.str i) (.str j) H Q := ⟨rfl, by rw [dec_s]; exact h⟩
theorem h_eqB {i j : Bool} (h : Q (.bl (decide (i = j))) H) : rEq (.bl i) (.bl j) H Q := ⟨rfl, by rw [dec_b]; exact h⟩
theorem h_neB {i j : Bool} (h : Q (.bl (!decide (i = j))) H) : rNe (.bl i) (.bl j) H Q := ⟨rfl, by rw [dec_b]; exact h⟩
theorem h_chain (h : ta σ H fun x H1 => tb σ H1 fun y H2 => r x y H2 fun z H3 => ∃ k, z = .bl k ∧ (if k = true then tc σ H3 fun w' H4 => r' y w' H4 Q else Q (.bl false) H3)) : tChain r r' ta tb tc σ H Q := h
theorem h_chk {k : Bool} {A : Prop} {w : V} {f : Bool → Prop} (hw : w = .bl k) (h : f k) : ∃ k, w = .bl k ∧ f k := ⟨k, hw, h⟩
theorem h_and (h : ta σ H fun x H1 => ∃ c, x = .bl c ∧ if c = true then tb σ H1 Q else Q (.bl false) H1) : tAndV ta tb σ H Q := h
theorem h_or (h : ta σ H fun x H1 => ∃ c, x = .bl c ∧ if c = true then Q (.bl true) H1 else tb σ H1 Q) : tOrV ta tb σ H Q := h
theorem h_not (h : ta σ H fun x H1 => ∃ c, x = .bl c ∧ Q (.bl (!c)) H1) : tNotV ta σ H Q := h
theorem h_tand {Q : Bool → Hp → Prop} (h : tt σ H fun c H1 => if c = true then tt' σ H1 Q else Q false H1) : tAnd tt tt' σ H Q := h
theorem h_tor {Q : Bool → Hp → Prop} (h : tt σ H fun c H1 => if c = true then Q true H1 else tt' σ H1 Q) : tOr tt tt' σ H Q := h
theorem h_tnot {Q : Bool → Hp → Prop} (h : tt σ H fun c H1 => Q (!c) H1) : tNot tt σ H Q := h
theorem h_test {Q : Bool → Hp → Prop} (h : te σ H fun x H' => ∃ k, x = .bl k ∧ Q k H') : tTest te σ H Q := h
theorem h_tB {Q : Bool → Hp → Prop} (h : te σ H fun x H' => ∃ k, x = .bl k ∧ Q k H') : tB te σ H Q := h
theorem h_bl {b : Bool} {f : Bool → Prop} (h : f b) : ∃ k, V.bl b = .bl k ∧ f k := ⟨b, rfl, h⟩
theorem h_iteT {A B : Prop} (h : A) : if true = true then A else B := by rw [if_pos rfl]; exact h
theorem h_iteF {A B : Prop} (h : B) : if false = true then A else B := by rw [if_neg Bool.false_ne_true]; exact h
theorem h_ite {b : Bool} {A B : Prop} (h1 : b = true → A) (h2 : b = false → B) : if b = true then A else B := by
  cases b
  · exact h_iteF (h2 rfl)
  · exact h_iteT (h1 rfl)
theorem h_ifE {c : TT} (h : c σ H fun b H1 => if b = true then ta σ H1 Q else tb σ H1 Q) : tIf c ta tb σ H Q := h
theorem h_nil {Q : List V → Hp → Prop} (h : Q [] H) : tNil σ H Q := h
theorem h_cons {Q : List V → Hp → Prop} (h : te σ H fun x H1 => tl σ H1 fun xs H2 => Q (x :: xs) H2) : tCons te tl σ H Q := h
theorem h_cb {f : List V → Hp → VK → Prop} (h : tl σ H fun vs H1 => f vs H1 Q) : tCB f tl σ H Q := h
theorem h_call {sp : Sp} {dvs : List V} {E : XK} (h : tl σ H fun vs H1 => sp (vs ++ dvs) H1 Q E) : tCall sp dvs E tl σ H Q := h
theorem h_callS {sp : Sp} {E : L2.St → XK} (h : tl σ H fun vs H1 => sp vs H1 Q (E σ)) : tCallS sp E tl σ H Q := h
theorem h_tup (h : tl σ H fun xs H1 => NewT xs H1 Q) : tTup tl σ H Q := h
theorem h_lst (h : tl σ H fun xs H1 => NewL xs H1 Q) : tLst tl σ H Q := h
theorem h_ixL {p : Addr} {xs : List V} (s : SqL K H p xs) (e : atI xs i = some v) (h : Q v H) : rIxL K (.ref p) (.int i) H Q := ⟨p, xs, i, v, rfl, rfl, s, e, h⟩
theorem h_ixT {p : Addr} {xs : List V} (s : SqT K H p xs) (e : atI xs i = some v) (h : Q v H) : rIxT K (.ref p) (.int i) H Q := ⟨p, xs, i, v, rfl, rfl, s, e, h⟩
end

section
variable {K : PySem.W.Frag} {σ : L2.St} {B B1 B' H H1 H' B0 H0 : Hp} {Q : VK} {W W' : List Addr} {p q : Addr} {xs ys : List V} {ds es : List D} {v : V} {d : D} {i j : Int} {te ta tb : TE}
theorem h_newL (w : Ex B H) (r : RepL K B xs ds) (h : ∀ p B' H', Stp [] B H B' H' → Rep K B' (.ref p) (.lst ds) → Q (.ref p) H') (hn : xs.length ≤ sizeLine) : NewL xs H Q :=
  ⟨hn, fun p hp => h p _ _ (Stp.new w hp) (.lst (SqL.of upd_same) (r.mono (Ex.new (w.none hp))))⟩
theorem h_newT (w : Ex B H) (r : RepL K B xs ds) (h : ∀ p B' H', Stp [] B H B' H' → Rep K B' (.ref p) (.tup ds) → Q (.ref p) H') (hn : xs.length ≤ sizeLine) : NewT xs H Q :=
  ⟨hn, fun p hp => h p _ _ (Stp.new w hp) (.tup (SqT.of upd_same) (r.mono (Ex.new (w.none hp))))⟩
theorem h_newM (w : Ex B H) (r : RepL K B xs ds) (h : ∀ p H', H p = none → Stp [] B H B H' → Mu K B H' p ds → Q (.ref p) H') (hn : xs.length ≤ sizeLine) : NewL xs H Q :=
  ⟨hn, fun p hp => h p _ hp (Stp.newM w hp) (Mu.new w hp r)⟩
theorem h_nwL (w : Ex B H) (r : RepL K B xs ds) (h : ∀ p B' H', Stp [] B H B' H' → Rep K B' (.ref p) (.lst ds) → Q (.ref p) H') : NwL xs H Q :=
  fun p hp => h p _ _ (Stp.new w hp) (.lst (SqL.of upd_same) (r.mono (Ex.new (w.none hp))))
theorem h_nwT (w : Ex B H) (r : RepL K B xs ds) (h : ∀ p B' H', Stp [] B H B' H' → Rep K B' (.ref p) (.tup ds) → Q (.ref p) H') : NwT xs H Q :=
  fun p hp => h p _ _ (Stp.new w hp) (.tup (SqT.of upd_same) (r.mono (Ex.new (w.none hp))))
theorem h_nwM (w : Ex B H) (r : RepL K B xs ds) (h : ∀ p H', H p = none → Stp [] B H B H' → Mu K B H' p ds → Q (.ref p) H') : NwL xs H Q :=
  fun p hp => h p _ hp (Stp.newM w hp) (Mu.new w hp r)
/-- what was free now was free at the entry -/
theorem Stp.nn (s : Stp W B0 H0 B H) (h : H p = none) : H0 p = none := by
  cases e : H0 p with
  | none => rfl
  | some o => obtain ⟨u, q⟩ := s.al p o e; rw [h] at q; cases q
/-- a step that writes at an object of our own -/
theorem Stp.own2 (a : Stp W B0 H0 B H) (s : Stp [p] B H B' H') (h0 : H0 p = none) : Stp W B0 H0 B' H' :=
  ⟨a.ex.trans s.ex, s.ok, fun x u hx e => s.fr x u (fun z => by
      rw [List.mem_singleton.mp z, h0] at e; cases e) (a.fr x u hx e), fun x u e => let ⟨u1, e1⟩ := a.al x u e; s.al x u1 e1, fun x u hb e => let ⟨u1, e1⟩ := a.al x u e; s.nw x u1 (a.nw x u hb e) e1⟩
theorem nm0 : p ∉ ([] : List Addr) := fun z => nomatch z
theorem nm1 (h : p ≠ q) : p ∉ [q] := fun z => h (List.mem_singleton.mp z)
theorem sub0 : ∀ x, x ∈ ([] : List Addr) → x ∈ W := fun _ z => nomatch z
/-- a list of our own is kept as it is -/
theorem Mu.keep (m : Mu K B H p ds) : ∃ B', Ex B B' ∧ (∀ q, q ≠ p → B q = none → B' q = none) ∧ (∀ W B0 H0, Stp W B0 H0 B H → Ex B0 H0 → H0 p = none → Stp W B0 H0 B' H) ∧ Rep K B' (.ref p) (.lst ds) := by
  obtain ⟨hb, xs, hp, r⟩ := m
  exact ⟨upd B p (.lst xs), Ex.new hb, fun q n e => by rw [upd_ne n]; exact e, fun W B0 H0 st w0 h0 => Stp.keep w0 st h0 hb hp, .lst (SqL.of upd_same) (r.mono (Ex.new hb))⟩
/-- a step that writes at what may be written and at objects of our own -/
theorem Stp.go (a : Stp W B0 H0 B H) (s : Stp W' B H B' H') (h : ∀ p, p ∈ W' → p ∈ W ∨ H0 p = none) : Stp W B0 H0 B' H' :=
  ⟨a.ex.trans s.ex, s.ok, fun x u hx e => s.fr x u (fun z => by
      rcases h x z with q | q
      · exact hx q
      · rw [q] at e; cases e) (a.fr x u hx e), fun x u e => let ⟨u1, e1⟩ := a.al x u e; s.al x u1 e1, fun x u hb e => let ⟨u1, e1⟩ := a.al x u e; s.nw x u1 (a.nw x u hb e) e1⟩
theorem go0 {F : Addr → Prop} : ∀ x, x ∈ ([] : List Addr) → F x := fun _ z => nomatch z
theorem go1 {F : Addr → Prop} (h : F p) : ∀ x, x ∈ [p] → F x := fun x z => by rw [List.mem_singleton.mp z]; exact h
theorem go2 {F : Addr → Prop} (h : F p) (h' : F q) : ∀ x, x ∈ [p, q] → F x := fun x z => by
  rcases List.mem_cons.mp z with e | e
  · rw [e]; exact h
  · rw [List.mem_singleton.mp e]; exact h'
theorem go3 {F : Addr → Prop} {r : Addr} (h : F p) (h' : F q) (h2 : F r) : ∀ x, x ∈ [p, q, r] → F x := fun x z => by
  rcases List.mem_cons.mp z with e | e
  · rw [e]; exact h
  · exact go2 h' h2 x e
theorem go4 {F : Addr → Prop} {r r2 : Addr} (h : F p) (h' : F q) (h2 : F r) (h3 : F r2) : ∀ x, x ∈ [p, q, r, r2] → F x := fun x z => by
  rcases List.mem_cons.mp z with e | e
  · rw [e]; exact h
  · exact go3 h' h2 h3 x e
theorem nm2 {r : Addr} (h : p ≠ q) (h' : p ≠ r) : p ∉ [q, r] := fun z => by
  rcases List.mem_cons.mp z with e | e
  · exact h e
  · exact h' (List.mem_singleton.mp e)
theorem nm3 {r r2 : Addr} (h : p ≠ q) (h' : p ≠ r) (h2 : p ≠ r2) : p ∉ [q, r, r2] := fun z => by
  rcases List.mem_cons.mp z with e | e
  · exact h e
  · exact nm2 h' h2 e
theorem nm4 {r r2 r3 : Addr} (h : p ≠ q) (h' : p ≠ r) (h2 : p ≠ r2) (h3 : p ≠ r3) : p ∉ [q, r, r2, r3] := fun z => by
  rcases List.mem_cons.mp z with e | e
  · exact h e
  · exact nm3 h' h2 h3 e
theorem Mu.kp (m : Mu K B H q es) (e : Ex B B') (k : ∀ q, q ≠ p → B q = none → B' q = none) (n : q ≠ p) : Mu K B' H q es := by
  obtain ⟨hb, xs, hp, r⟩ := m
  exact ⟨k q n hb, xs, hp, r.mono e⟩
theorem RepL.atE {α : Type} [Enc α] {l : List α} {x : α} (r : RepL K B xs (l.map enc)) (h : atI l i = some x) : ∃ v, atI xs i = some v ∧ Rep K B v (enc x) := by
  refine r.at ?_
  unfold atI at h ⊢
  rw [List.length_map]
  cases e : ixN l.length i with
  | none => rw [e] at h; cases h
  | some k =>
    rw [e] at h
    show (l.map enc)[k]? = _
    rw [List.getElem?_map, show l[k]? = some x from h]
    rfl
theorem h_pow {k : Int} (e : i ^ j.toNat = k) (c : CPow i j) (h : Q (.int k) H) : rI CPow (fun i j => .int (i ^ j.toNat)) (.int i) (.int j) H Q := ⟨i, j, rfl, rfl, c, by show Q (.int (i ^ j.toNat)) H; rw [e]; exact h⟩
instance (i j : Int) : Decidable (CPow i j) := by unfold CPow; infer_instance
instance (i j : Int) : Decidable (CMul i j) := by unfold CMul; infer_instance
instance (i j : Int) : Decidable (CDiv i j) := by unfold CDiv; infer_instance
def absI (i : Int) : Int := if i < 0 then -i else i
def b2z (b : Bool) : Int := if b then 1 else 0
theorem h_isB {a b : Bool} (h : Q (.bl (decide (a = b))) H) : rIsB (.bl a) (.bl b) H Q := ⟨a, b, rfl, rfl, h⟩
theorem h_isnotB {a b : Bool} (h : Q (.bl (!decide (a = b))) H) : rNotB (.bl a) (.bl b) H Q := ⟨a, b, rfl, rfl, h⟩
def rLenY (K : PySem.W.Frag) : List V → Hp → VK → Prop := fun xs H Q => ∃ p ys, xs = [.ref p] ∧ (SqL K H p ys ∨ SqT K H p ys) ∧ Q (.int ys.length) H
def rAbsY : List V → Hp → VK → Prop := fun xs H Q => ∃ i, xs = [.int i] ∧ Q (.int (if i < 0 then -i else i)) H
def rIntY : List V → Hp → VK → Prop := fun xs H Q => (∃ i, xs = [.int i] ∧ Q (.int i) H) ∨ ∃ k, xs = [.bl k] ∧ Q (.int (if k then 1 else 0)) H
def rStrY : List V → Hp → VK → Prop := fun xs H Q => ∃ i, xs = [.int i] ∧ i.natAbs.log2 < 1920 ∧ Q (.str (toString i)) H
def rListY (K : PySem.W.Frag) : List V → Hp → VK → Prop := fun xs H Q => ∃ p ys, xs = [.ref p] ∧ (SqL K H p ys ∨ SqT K H p ys) ∧ ∀ l, H l = none → Q (.ref l) (upd H l (.lst ys))
def rTupY (K : PySem.W.Frag) : List V → Hp → VK → Prop := fun xs H Q => ∃ p ys, xs = [.ref p] ∧ ((SqL K H p ys ∧ ∀ l, H l = none → Q (.ref l) (upd H l (.tup ys))) ∨ (SqT K H p ys ∧ Q (.ref p) H))
theorem cr_len {X : Cx} : CallR X (.builtin "len") (rLenY X.K) := call_len_seq
theorem cr_abs {X : Cx} : CallR X (.builtin "abs") rAbsY := call_abs
theorem cr_int {X : Cx} : CallR X (.type "int") rIntY := call_int1
theorem cr_str {X : Cx} : CallR X (.type "str") rStrY := call_str_int
theorem cr_list {X : Cx} : CallR X (.type "list") (rListY X.K) := call_list_of
theorem cr_tuple {X : Cx} : CallR X (.type "tuple") (rTupY X.K) := call_tuple_of
theorem h_len {α : Type} [Enc α] {l : List α} (s : SqL K H p xs) (r : RepL K B xs (l.map enc)) (h : Q (.int l.length) H) : rLenY K [V.ref p] H Q := by
  refine ⟨p, xs, rfl, .inl s, ?_⟩
  rw [show xs.length = l.length from by rw [r.length, List.length_map]]
  exact h
theorem h_lenT (s : SqT K H p xs) (r : RepL K B xs ds) (h : Q (.int ds.length) H) : rLenY K [V.ref p] H Q := by
  refine ⟨p, xs, rfl, .inr s, ?_⟩
  rw [r.length]
  exact h
theorem h_abs (h : Q (.int (absI i)) H) : rAbsY [V.int i] H Q := ⟨i, rfl, h⟩
theorem h_intB {b : Bool} (h : Q (.int (b2z b)) H) : rIntY [V.bl b] H Q := .inr ⟨b, rfl, h⟩
theorem h_intI (h : Q (.int i) H) : rIntY [V.int i] H Q := .inl ⟨i, rfl, h⟩
theorem h_str (c : i.natAbs.log2 < 1920) (h : Q (.str (toString i)) H) : rStrY [V.int i] H Q := ⟨i, rfl, c, h⟩
theorem h_listL (s : SqL K H p xs) (h : NwL xs H Q) : rListY K [V.ref p] H Q := ⟨p, xs, rfl, .inl s, h⟩
theorem h_listT (s : SqT K H p xs) (h : NwL xs H Q) : rListY K [V.ref p] H Q := ⟨p, xs, rfl, .inr s, h⟩
theorem h_tupL (s : SqL K H p xs) (h : NwT xs H Q) : rTupY K [V.ref p] H Q := ⟨p, xs, rfl, .inl ⟨s, h⟩⟩
theorem h_iteN {b : Bool} {A C : Prop} (h1 : b = false → A) (h2 : b = true → C) : if (!b) = true then A else C := by
  cases b
  · exact h_iteT (h1 rfl)
  · exact h_iteF (h2 rfl)
theorem h_iteNT {A C : Prop} (h : C) : if (!true) = true then A else C := h_iteF h
theorem h_iteNF {A C : Prop} (h : A) : if (!false) = true then A else C := h_iteT h
theorem Post.iteTn {α : Type} {m m' : Res α} {P : α → Prop} {R : Err → Prop} {c : Bool} (h : Post (if (!c) = true then m else m') P R) (hc : c = false) : Post m P R := by
  rw [hc] at h; exact h
theorem Post.iteFn {α : Type} {m m' : Res α} {P : α → Prop} {R : Err → Prop} {c : Bool} (h : Post (if (!c) = true then m else m') P R) (hc : c = true) : Post m' P R := by
  rw [hc] at h; exact h
end

/-! ### joins, loops, comprehensions, in step with the mirror -/
section
variable {K : PySem.W.Frag} {σ : L2.St} {B B1 B' H H1 H' B0 H0 : Hp} {Q : VK} {W W' : List Addr} {p q : Addr} {xs ys : List V} {ds es : List D} {v : V} {d : D} {t z tb : TS} {te : TE} {c tt : TT} {D' : Ends} {g : TG} {ti : TI}
variable {α β S R' : Type} {P : β → Prop} {R : Err → Prop}
theorem h_joinS {m : Res α} {k : α → Res β} (hP : Post (m.bind k) P R) (J : α → L2.St → Hp → Prop)
    (h1 : ∀ N : L2.St → Hp → Prop, (∀ a σ' H', J a σ' H' → Post (k a) P R → N σ' H') → Post m (fun a => Post (k a) P R) R → t { D' with nx := N } σ H)
    (h2 : ∀ a σ' H', J a σ' H' → Post (k a) P R → z D' σ' H') : tSeq t z D' σ H := h1 _ h2 hP.bind
theorem h_condJ {m : Res Bool} {k : Bool → Res β} {Qb : Bool → Hp → Prop} (hP : Post (m.bind k) P R) (J : Hp → Prop)
    (h1 : ∀ N : Bool → Hp → Prop, (∀ b H', J H' → Post (k b) P R → N b H') → Post m (fun b => Post (k b) P R) R → c σ H N)
    (h2 : ∀ b H', J H' → Post (k b) P R → Qb b H') : c σ H Qb := h1 _ h2 hP.bind
theorem h_exprJ {m : Res α} {k : α → Res β} (hP : Post (m.bind k) P R) (J : α → V → Hp → Prop)
    (h1 : ∀ N : VK, (∀ a v H', J a v H' → Post (k a) P R → N v H') → Post m (fun a => Post (k a) P R) R → te σ H N)
    (h2 : ∀ a v H', J a v H' → Post (k a) P R → Q v H') : te σ H Q := h1 _ h2 hP.bind
theorem h_gname {n : Nat} {Q : L2.St → Hp → Prop} (h : Q (σ.set n (some v)) H) : gName n v σ H Q := h
/-- behind a loop -/
def afterR (k : S → Res β) : Fl S β → Res β
  | .nx s => k s | .rt r => .ok r | .bk s => k s
/-- a join of ways of which some end the def (or the turn) -/
theorem h_joinF {m : Res (Fl S β)} {k : S → Res β} (hP : Post (m.bind (afterR k)) P R) (J : S → L2.St → Hp → Prop)
    (h1 : ∀ (N : L2.St → Hp → Prop) (T : Fl S β → Prop), (∀ a σ' H', J a σ' H' → T (.nx a) → N σ' H') → (∀ r, T (.rt r) → P r) → Post m T R → t { D' with nx := N } σ H)
    (h2 : ∀ a σ' H', J a σ' H' → Post (k a) P R → z D' σ' H') : tSeq t z D' σ H :=
  h1 _ (fun a => Post (afterR k a) P R) (fun a σ' H' j q => h2 a σ' H' j q) (fun _ q => (q : Post (.ok _) P R).ok) hP.bind
/-- what a turn hands on -/
def turnR (l : List α) (f : α → S → Res (Fl S R')) (i : Nat) (P : Fl S R' → Prop) (R : Err → Prop) : Fl S R' → Prop
  | .nx s => Post (forR (l.drop i) s f) P R | .rt r => P (.rt r) | .bk s => P (.bk s)
theorem Post.turn {l : List α} {i : Nat} {s : S} {f : α → S → Res (Fl S R')} {P : Fl S R' → Prop} {x : α} (h : Post (forR (l.drop i) s f) P R) (hx : l[i]? = some x) : Post (f x s) (turnR l f (i + 1) P R) R :=
  (Post.forS h hx).mono (fun r q => by cases r <;> exact q) fun _ q => q

theorem h_forE (h : te σ H fun x H1 => tFor (iList K (tC x)) g tb D' σ H1) : tFor (iList K te) g tb D' σ H := h
theorem h_forL [Enc α] {l : List α} {s0 : S} {f : α → S → Res (Fl S β)} {k : S → Res β} (hP : Post ((forR l s0 f).bind (afterR k)) P R) (hs : SqL K H p xs) (hr : RepL K B xs (l.map enc))
    (J : S → L2.St → Hp → Prop) (h0 : J s0 σ H) (hl : ∀ s σ' H', J s σ' H' → SqL K H' p xs)
    (hb : ∀ (N : L2.St → Hp → Prop) (T : Fl S β → Prop) (x : α) v s σ' H', J s σ' H' → Rep K B v (enc x) → (∀ s' σ2 H2, J s' σ2 H2 → T (.nx s') → N σ2 H2) → (∀ r, T (.rt r) → P r) → (∀ s' σ2 H2, J s' σ2 H2 → T (.bk s') → D'.nx σ2 H2) → Post (f x s) T R →
      g v σ' H' fun σ2 H2 => tb { D' with nx := N, ct := N, bk := D'.nx } σ2 H2)
    (hd : ∀ s σ' H', J s σ' H' → Post (k s) P R → D'.nx σ' H') : tFor (iList K (tC (.ref p))) g tb D' σ H := by
  refine ⟨p, rfl, ⟨xs, hs⟩, for_list (K := K) (a := p) (xs := xs) (fun i σ' H' => ∃ s, J s σ' H' ∧ Post (forR (l.drop i) s f) (fun a => Post (afterR k a) P R) R) ⟨s0, h0, hP.bind⟩ (fun i σ' H' _ ⟨s, j, _⟩ => hl s σ' H' j) ?_ ?_⟩
  · rintro i y σ' H' hi ⟨s, j, q⟩
    obtain ⟨x, hx⟩ : ∃ x, l[i]? = some x := by
      have h1 := (List.getElem?_eq_some_iff.mp hi).1
      rw [hr.length, List.length_map] at h1
      exact ⟨l[i], List.getElem?_eq_getElem h1⟩
    obtain ⟨u, hu, ru⟩ := hr.get (i := i) (d := enc x) (by rw [List.getElem?_map, hx]; rfl)
    rw [hi] at hu; cases hu
    exact hb _ _ x y s σ' H' j ru (fun s' σ2 H2 j2 t2 => ⟨s', j2, t2⟩) (fun r t2 => (t2 : Post (.ok r) P R).ok) (fun s' σ2 H2 j2 t2 => hd s' σ2 H2 j2 t2) (q.turn hx)
  · rintro σ' H' ⟨s, j, q⟩
    exact hd s σ' H' j (q.forN (by rw [hr.length, List.length_map]; exact Nat.le_refl _))
theorem h_forTE (h : te σ H fun x H1 => tFor (iTup K (tC x)) g tb D' σ H1) : tFor (iTup K te) g tb D' σ H := h
theorem h_forT [Enc α] {l : List α} {s0 : S} {f : α → S → Res (Fl S β)} {k : S → Res β} (hP : Post ((forR l s0 f).bind (afterR k)) P R) (hs : SqT K H p xs) (hr : RepL K B xs (l.map enc))
    (J : S → L2.St → Hp → Prop) (h0 : J s0 σ H) (hl : ∀ s σ' H', J s σ' H' → SqT K H' p xs)
    (hb : ∀ (N : L2.St → Hp → Prop) (T : Fl S β → Prop) (x : α) v s σ' H', J s σ' H' → Rep K B v (enc x) → (∀ s' σ2 H2, J s' σ2 H2 → T (.nx s') → N σ2 H2) → (∀ r, T (.rt r) → P r) → (∀ s' σ2 H2, J s' σ2 H2 → T (.bk s') → D'.nx σ2 H2) → Post (f x s) T R →
      g v σ' H' fun σ2 H2 => tb { D' with nx := N, ct := N, bk := D'.nx } σ2 H2)
    (hd : ∀ s σ' H', J s σ' H' → Post (k s) P R → D'.nx σ' H') : tFor (iTup K (tC (.ref p))) g tb D' σ H := by
  refine ⟨p, rfl, ⟨xs, hs⟩, for_tup (K := K) (a := p) (xs := xs) (fun i σ' H' => ∃ s, J s σ' H' ∧ Post (forR (l.drop i) s f) (fun a => Post (afterR k a) P R) R) ⟨s0, h0, hP.bind⟩ (fun i σ' H' _ ⟨s, j, _⟩ => hl s σ' H' j) ?_ ?_⟩
  · rintro i y σ' H' hi ⟨s, j, q⟩
    obtain ⟨x, hx⟩ : ∃ x, l[i]? = some x := by
      have h1 := (List.getElem?_eq_some_iff.mp hi).1
      rw [hr.length, List.length_map] at h1
      exact ⟨l[i], List.getElem?_eq_getElem h1⟩
    obtain ⟨u, hu, ru⟩ := hr.get (i := i) (d := enc x) (by rw [List.getElem?_map, hx]; rfl)
    rw [hi] at hu; cases hu
    exact hb _ _ x y s σ' H' j ru (fun s' σ2 H2 j2 t2 => ⟨s', j2, t2⟩) (fun r t2 => (t2 : Post (.ok r) P R).ok) (fun s' σ2 H2 j2 t2 => hd s' σ2 H2 j2 t2) (q.turn hx)
  · rintro σ' H' ⟨s, j, q⟩
    exact hd s σ' H' j (q.forN (by rw [hr.length, List.length_map]; exact Nat.le_refl _))
/-- the ints from lo on, below hi -/
def rngI (lo hi : Int) : List Int := (List.range (hi - lo).toNat).map fun (i : Nat) => lo + (i : Int)
theorem rngI_get {lo hi : Int} {i : Nat} (h : i < (hi - lo).toNat) : (rngI lo hi)[i]? = some (lo + (i : Int)) := by
  unfold rngI
  rw [List.getElem?_map, List.getElem?_range h]
  rfl
theorem rngI_len {lo hi : Int} : (rngI lo hi).length = (hi - lo).toNat := by
  unfold rngI
  rw [List.length_map, List.length_range]
def Rng1 (vs : List V) (g : TG) (tb : TS) (D' : Ends) (σ : L2.St) (H : Hp) : Prop := tFor (iRng1 (fun _ H Q => Q vs H)) g tb D' σ H
def Rng2 (vs : List V) (g : TG) (tb : TS) (D' : Ends) (σ : L2.St) (H : Hp) : Prop := tFor (iRng2 (fun _ H Q => Q vs H)) g tb D' σ H
theorem h_rng1 {ta : TA} (h : ta σ H fun vs H1 => Rng1 vs g tb D' σ H1) : tFor (iRng1 ta) g tb D' σ H := h
theorem h_rng2 {ta : TA} (h : ta σ H fun vs H1 => Rng2 vs g tb D' σ H1) : tFor (iRng2 ta) g tb D' σ H := h
theorem forRng {lo hi : Int} {s0 : S} {f : Int → S → Res (Fl S β)} {k : S → Res β} (hP : Post ((forR (rngI lo hi) s0 f).bind (afterR k)) P R)
    (J : S → L2.St → Hp → Prop) (h0 : J s0 σ H)
    (hb : ∀ (N : L2.St → Hp → Prop) (T : Fl S β → Prop) (x : Int) s σ' H', J s σ' H' → lo ≤ x → x < hi → (∀ s' σ2 H2, J s' σ2 H2 → T (.nx s') → N σ2 H2) → (∀ r, T (.rt r) → P r) → (∀ s' σ2 H2, J s' σ2 H2 → T (.bk s') → D'.nx σ2 H2) → Post (f x s) T R →
      g (.int x) σ' H' fun σ2 H2 => tb { D' with nx := N, ct := N, bk := D'.nx } σ2 H2)
    (hd : ∀ s σ' H', J s σ' H' → Post (k s) P R → D'.nx σ' H') :
    ∃ W : Nat → Nat → L2.St → Hp → Prop, (∃ m, W 0 m σ H) ∧ ∀ i m σ H, W i m σ H →
      ((Itr lo (hi - lo).toNat).stop i H ∧ D'.nx σ H) ∨ ((Itr lo (hi - lo).toNat).go i H ∧ ∃ N : L2.St → Hp → Prop, (∀ σ' H', N σ' H' → ∃ m', m' < m ∧ W (i + 1) m' σ' H') ∧ ∀ x H', (Itr lo (hi - lo).toNat).yld i H x H' → g x σ H' fun σ2 H2 => tb { D' with nx := N, ct := N, bk := D'.nx } σ2 H2) := by
  refine for_range (lo := lo) (n := (hi - lo).toNat) (fun i σ' H' => ∃ s, J s σ' H' ∧ Post (forR ((rngI lo hi).drop i) s f) (fun a => Post (afterR k a) P R) R) ⟨s0, h0, hP.bind⟩ ?_ ?_
  · rintro i σ' H' hi' ⟨s, j, q⟩
    exact hb _ _ (lo + (i : Int)) s σ' H' j (by omega) (by omega) (fun s' σ2 H2 j2 t2 => ⟨s', j2, t2⟩) (fun r t2 => (t2 : Post (.ok r) P R).ok) (fun s' σ2 H2 j2 t2 => hd s' σ2 H2 j2 t2) (q.turn (rngI_get hi'))
  · rintro σ' H' ⟨s, j, q⟩
    exact hd s σ' H' j (q.forN (by rw [rngI_len]; exact Nat.le_refl _))
theorem h_forR1 {hi : Int} {s0 : S} {f : Int → S → Res (Fl S β)} {k : S → Res β} (hP : Post ((forR (rngI 0 hi) s0 f).bind (afterR k)) P R) (hz : -(2 ^ 62) ≤ hi ∧ hi < 2 ^ 62)
    (J : S → L2.St → Hp → Prop) (h0 : J s0 σ H)
    (hb : ∀ (N : L2.St → Hp → Prop) (T : Fl S β → Prop) (x : Int) s σ' H', J s σ' H' → 0 ≤ x → x < hi → (∀ s' σ2 H2, J s' σ2 H2 → T (.nx s') → N σ2 H2) → (∀ r, T (.rt r) → P r) → (∀ s' σ2 H2, J s' σ2 H2 → T (.bk s') → D'.nx σ2 H2) → Post (f x s) T R →
      g (.int x) σ' H' fun σ2 H2 => tb { D' with nx := N, ct := N, bk := D'.nx } σ2 H2)
    (hd : ∀ s σ' H', J s σ' H' → Post (k s) P R → D'.nx σ' H') : Rng1 [.int hi] g tb D' σ H := by
  have q := forRng hP J h0 hb hd
  rw [Int.sub_zero] at q
  exact ⟨hi, rfl, hz.1, hz.2, q⟩
theorem h_forR2 {lo hi : Int} {s0 : S} {f : Int → S → Res (Fl S β)} {k : S → Res β} (hP : Post ((forR (rngI lo hi) s0 f).bind (afterR k)) P R) (hz : (-(2 ^ 62) ≤ lo ∧ lo < 2 ^ 62) ∧ -(2 ^ 62) ≤ hi ∧ hi < 2 ^ 62)
    (J : S → L2.St → Hp → Prop) (h0 : J s0 σ H)
    (hb : ∀ (N : L2.St → Hp → Prop) (T : Fl S β → Prop) (x : Int) s σ' H', J s σ' H' → lo ≤ x → x < hi → (∀ s' σ2 H2, J s' σ2 H2 → T (.nx s') → N σ2 H2) → (∀ r, T (.rt r) → P r) → (∀ s' σ2 H2, J s' σ2 H2 → T (.bk s') → D'.nx σ2 H2) → Post (f x s) T R →
      g (.int x) σ' H' fun σ2 H2 => tb { D' with nx := N, ct := N, bk := D'.nx } σ2 H2)
    (hd : ∀ s σ' H', J s σ' H' → Post (k s) P R → D'.nx σ' H') : Rng2 [.int lo, .int hi] g tb D' σ H :=
  ⟨lo, hi, rfl, ⟨hz.1.1, hz.1.2, hz.2.1, hz.2.2⟩, forRng hP J h0 hb hd⟩

/-! comprehensions -/
def compL : List α → S → (α → S → Res (Option R' × S)) → Res (List R' × S)
  | [], s, _ => .ok ([], s)
  | x :: xs, s, f => (f x s).bind fun r => (compL xs r.2 f).bind fun q => .ok (match r.1 with | some b => b :: q.1 | none => q.1, q.2)
def compR (l : List α) (s : S) (f : α → S → Res (Option R' × S)) : Res (List R' × S) := guardR (l.length ≤ 1000000) (compL l s f)
def compT (l : List α) (f : α → S → Res (Option R' × S)) (k : List R' × S → Res β) (acc : List R') (P : β → Prop) (R : Err → Prop) : Option R' × S → Prop
  | (some b, s) => Post ((compL l s f).bind fun q => k (acc ++ [b] ++ q.1, q.2)) P R
  | (none, s) => Post ((compL l s f).bind fun q => k (acc ++ q.1, q.2)) P R
theorem Post.compS {l : List α} {i : Nat} {s : S} {f : α → S → Res (Option R' × S)} {k : List R' × S → Res β} {acc : List R'} {x : α} (h : Post ((compL (l.drop i) s f).bind fun q => k (acc ++ q.1, q.2)) P R) (hx : l[i]? = some x) :
    Post (f x s) (compT (l.drop (i + 1)) f k acc P R) R := by
  obtain ⟨hi, e⟩ := List.getElem?_eq_some_iff.mp hx
  rw [List.drop_eq_getElem_cons hi, e] at h
  have h2 := (Post.bind (Post.bind h))
  refine h2.mono (fun r q => ?_) fun _ q => q
  obtain ⟨o, s'⟩ := r
  cases o with
  | some b =>
    show Post ((compL (l.drop (i + 1)) s' f).bind fun q => k (acc ++ [b] ++ q.1, q.2)) P R
    have q1 : Post ((compL (l.drop (i + 1)) s' f).bind fun q => .ok (b :: q.1, q.2)) (fun a => Post (k (acc ++ a.1, a.2)) P R) R := q
    generalize compL (l.drop (i + 1)) s' f = m at q1 ⊢
    cases m with
    | ok a =>
      have q2 : Post (k (acc ++ (b :: a.1), a.2)) P R := q1.ok
      show Post (k (acc ++ [b] ++ a.1, a.2)) P R
      rw [List.append_assoc]
      exact q2
    | err e => exact ⟨q1.h0⟩
    | stuck => exact ⟨q1.h0⟩
  | none =>
    show Post ((compL (l.drop (i + 1)) s' f).bind fun q => k (acc ++ q.1, q.2)) P R
    have q1 : Post ((compL (l.drop (i + 1)) s' f).bind fun q => .ok (q.1, q.2)) (fun a => Post (k (acc ++ a.1, a.2)) P R) R := q
    generalize compL (l.drop (i + 1)) s' f = m at q1 ⊢
    cases m
    · exact q1.ok
    · exact ⟨q1.h0⟩
    · exact ⟨q1.h0⟩
theorem h_app1 [Enc α] {l : List α} {b : α} {y : V} {N : Hp → Prop} (w : Ex B H) (m : Mu K B H p (l.map enc)) (r : Rep K B y (enc b)) (hz : l.length < sizeLine) (h : ∀ H', Stp [p] B H B H' → Mu K B H' p ((l ++ [b]).map enc) → N H') :
    ∃ acc, H p = some (.lst acc) ∧ acc.length < sizeLine ∧ N (upd H p (.lst (acc ++ [y]))) := by
  obtain ⟨hb, xs, hp, hr⟩ := id m
  refine ⟨xs, hp, by rw [hr.length, List.length_map]; exact hz, ?_⟩
  have rl : RepL K B (xs ++ [y]) ((l ++ [b]).map enc) := by
    rw [List.map_append]
    exact hr.append (.cons r .nil)
  obtain ⟨s, m'⟩ := Stp.mut w m rl
  exact h _ s m'
def LcL (K : PySem.W.Frag) (v : V) (g : TG) (tt : TT) (te : TE) (vs : List Nat) (σ : L2.St) (H : Hp) (Q : VK) : Prop := tLc (iList K (tC v)) g tt te vs σ H Q
theorem h_lcE {vs : List Nat} {tl : TE} (h : tl σ H fun x H1 => LcL K x g tt te vs σ H1 Q) : tLc (iList K tl) g tt te vs σ H Q := h
def LcT (σ : L2.St) (vs : List Nat) (tt : TT) (te : TE) (Dl : Addr) (N : Hp → Prop) : L2.St → Hp → Prop := fun σ2 H2 => wipe σ2 vs = wipe σ vs ∧ tt σ2 H2 fun b H3 =>
  if b = true then te σ2 H3 fun y H4 => ∃ acc, H4 Dl = some (.lst acc) ∧ acc.length < sizeLine ∧ N (upd H4 Dl (.lst (acc ++ [y]))) else N H3
def App (Dl : Addr) (N : Hp → Prop) : VK := fun y H4 => ∃ acc, H4 Dl = some (.lst acc) ∧ acc.length < sizeLine ∧ N (upd H4 Dl (.lst (acc ++ [y])))
theorem h_lcT {vs : List Nat} {Dl : Addr} {N : Hp → Prop} {σ2 : L2.St} (e : wipe σ2 vs = wipe σ vs) (h : te σ2 H (App Dl N)) : LcT σ vs tYes te Dl N σ2 H := ⟨e, h⟩
theorem h_lcI {vs : List Nat} {Dl : Addr} {N : Hp → Prop} {σ2 : L2.St} (e : wipe σ2 vs = wipe σ vs) (h : tt σ2 H fun b H3 => if b = true then te σ2 H3 (App Dl N) else N H3) : LcT σ vs tt te Dl N σ2 H := ⟨e, h⟩
theorem h_app [Enc α] {l : List α} {b : α} {y : V} {N : Hp → Prop} (w : Ex B H) (m : Mu K B H p (l.map enc)) (r : Rep K B y (enc b)) (hz : l.length < sizeLine) (h : ∀ H', Stp [p] B H B H' → Mu K B H' p ((l ++ [b]).map enc) → N H') : App p N y H := h_app1 w m r hz h
theorem h_lcL [Enc α] {l : List α} {s0 : S} {f : α → S → Res (Option R' × S)} {k : List R' × S → Res β} {vs : List Nat} (hP : Post ((compR l s0 f).bind k) P R) (hs : SqL K H p xs) (hr : RepL K B xs (l.map enc))
    (J : Addr → List R' → S → Hp → Prop) (h0 : ∀ Dl, H Dl = none → J Dl [] s0 (upd H Dl (.lst []))) (hl : ∀ Dl acc s H', J Dl acc s H' → SqL K H' p xs)
    (hb : ∀ (Dl : Addr) (N : Hp → Prop) (T : Option R' × S → Prop) (x : α) v acc s H', J Dl acc s H' → Rep K B v (enc x) → acc.length < sizeLine → (∀ b s' H2, J Dl (acc ++ [b]) s' H2 → T (some b, s') → N H2) → (∀ s' H2, J Dl acc s' H2 → T (none, s') → N H2) → Post (f x s) T R →
      g v (wipe σ vs) H' (LcT σ vs tt te Dl N))
    (hd : ∀ Dl acc s H', J Dl acc s H' → Post (k (acc, s)) P R → Q (.ref Dl) H') : LcL K (.ref p) g tt te vs σ H Q := by
  refine ⟨p, rfl, ⟨xs, hs⟩, fun Dl hD => ?_⟩
  unfold compR at hP
  have hz : l.length ≤ 1000000 := by
    by_cases c : l.length ≤ 1000000
    · exact c
    · unfold guardR at hP; rw [if_neg c] at hP; exact hP.elim
  unfold guardR at hP
  rw [if_pos hz] at hP
  refine lc_list (K := K) (a := p) (xs := xs) (fun i H' => ∃ acc s, J Dl acc s H' ∧ acc.length ≤ i ∧ Post ((compL (l.drop i) s f).bind fun q => k (acc ++ q.1, q.2)) P R) ⟨[], s0, h0 Dl hD, Nat.le_refl _, hP⟩ (fun i H' _ ⟨acc, s, j, _⟩ => hl Dl acc s H' j) ?_ ?_
  · rintro i y H' hi ⟨acc, s, j, hn, q⟩
    have h1 := (List.getElem?_eq_some_iff.mp hi).1
    rw [hr.length, List.length_map] at h1
    obtain ⟨x, hx⟩ : ∃ x, l[i]? = some x := ⟨l[i], List.getElem?_eq_getElem h1⟩
    obtain ⟨u, hu, ru⟩ := hr.get (i := i) (d := enc x) (by rw [List.getElem?_map, hx]; rfl)
    rw [hi] at hu; cases hu
    exact hb Dl _ _ x y acc s H' j ru (Nat.lt_of_le_of_lt (Nat.le_trans hn (Nat.le_trans (Nat.le_of_lt h1) hz)) (by decide)) (fun b s' H2 j2 t2 => ⟨acc ++ [b], s', j2, by rw [List.length_append]; exact Nat.succ_le_succ hn, t2⟩) (fun s' H2 j2 t2 => ⟨acc, s', j2, Nat.le_succ_of_le hn, t2⟩) (q.compS hx)
  · rintro H' ⟨acc, s, j, _, q⟩
    rw [hr.length, List.length_map, List.drop_eq_nil_of_le (Nat.le_refl _)] at q
    have q2 : Post (k (acc ++ [], s)) P R := q
    rw [List.append_nil] at q2
    exact hd Dl acc s H' j q2
def LcR1 (ws : List V) (g : TG) (tt : TT) (te : TE) (vs : List Nat) (σ : L2.St) (H : Hp) (Q : VK) : Prop := tLc (iRng1 (fun _ H Q => Q ws H)) g tt te vs σ H Q
theorem h_lcR1E {vs : List Nat} {ta : TA} (h : ta σ H fun ws H1 => LcR1 ws g tt te vs σ H1 Q) : tLc (iRng1 ta) g tt te vs σ H Q := h
theorem h_lcR1 {hi : Int} {s0 : S} {f : Int → S → Res (Option R' × S)} {k : List R' × S → Res β} {vs : List Nat} (hP : Post ((compR (rngI 0 hi) s0 f).bind k) P R)
    (J : Addr → List R' → S → Hp → Prop) (h0 : ∀ Dl, H Dl = none → J Dl [] s0 (upd H Dl (.lst [])))
    (hb : ∀ (Dl : Addr) (N : Hp → Prop) (T : Option R' × S → Prop) (x : Int) acc s H', J Dl acc s H' → 0 ≤ x → x < hi → acc.length < sizeLine → (∀ b s' H2, J Dl (acc ++ [b]) s' H2 → T (some b, s') → N H2) → (∀ s' H2, J Dl acc s' H2 → T (none, s') → N H2) → Post (f x s) T R →
      g (.int x) (wipe σ vs) H' (LcT σ vs tt te Dl N))
    (hd : ∀ Dl acc s H', J Dl acc s H' → Post (k (acc, s)) P R → Q (.ref Dl) H') (hlo : -(2 ^ 62) ≤ hi) : LcR1 [.int hi] g tt te vs σ H Q := by
  unfold compR at hP
  have hz : (rngI 0 hi).length ≤ 1000000 := by
    by_cases c : (rngI 0 hi).length ≤ 1000000
    · exact c
    · unfold guardR at hP; rw [if_neg c] at hP; exact hP.elim
  unfold guardR at hP
  rw [if_pos hz] at hP
  rw [rngI_len, Int.sub_zero] at hz
  refine ⟨hi, rfl, hlo, by omega, fun Dl hD => ?_⟩
  refine lc_range (lo := 0) (n := hi.toNat) (fun i H' => ∃ acc s, J Dl acc s H' ∧ acc.length ≤ i ∧ Post ((compL ((rngI 0 hi).drop i) s f).bind fun q => k (acc ++ q.1, q.2)) P R) ⟨[], s0, h0 Dl hD, Nat.le_refl _, hP⟩ ?_ ?_
  · rintro i H' hi' ⟨acc, s, j, hn, q⟩
    have hx := rngI_get (lo := 0) (hi := hi) (i := i) (by omega)
    have e : (0 : Int) + (i : Int) = (i : Int) := Int.zero_add _
    exact hb Dl _ _ (0 + (i : Int)) acc s H' j (by omega) (by omega) (Nat.lt_of_le_of_lt (Nat.le_trans hn (Nat.le_trans (Nat.le_of_lt hi') hz)) (by decide)) (fun b s' H2 j2 t2 => ⟨acc ++ [b], s', j2, by rw [List.length_append]; exact Nat.succ_le_succ hn, t2⟩) (fun s' H2 j2 t2 => ⟨acc, s', j2, Nat.le_succ_of_le hn, t2⟩) (q.compS hx)
  · rintro H' ⟨acc, s, j, _, q⟩
    rw [List.drop_eq_nil_of_le (by rw [rngI_len]; omega)] at q
    have q2 : Post (k (acc ++ [], s)) P R := q
    rw [List.append_nil] at q2
    exact hd Dl acc s H' j q2
end

section
variable {K : PySem.W.Frag} {B B' H H' B0 H0 : Hp} {W : List Addr} {p : Addr} {xs : List V} {ds : List D} {v : V} {a b c d : L2.St → Hp → Prop} {rt : VK} {σ : L2.St}
theorem Rep.sqB (r : Rep K B v (.lst ds)) : ∃ p xs, v = .ref p ∧ SqL K B p xs ∧ RepL K B xs ds := by
  cases r with
  | @lst p xs _ hp r => exact ⟨p, xs, rfl, hp, r⟩
theorem Rep.stB (r : Rep K B v (.tup ds)) : ∃ p xs, v = .ref p ∧ SqT K B p xs ∧ RepL K B xs ds := by
  cases r with
  | @tup p xs _ hp r => exact ⟨p, xs, rfl, hp, r⟩
theorem Bor.sq0 (m : Bor K B0 H0 W v ds) : ∃ p xs, v = .ref p ∧ RepL K B0 xs ds ∧ ∀ B' H', Stp W B0 H0 B' H' → SqL K H' p xs := by
  obtain ⟨p, xs, e, hp, r⟩ := m
  refine ⟨p, xs, e, r, fun B' H' s => ?_⟩
  rcases hp with ⟨hp | ⟨o, hp⟩, hw⟩ | hp
  · exact .inl (.inl (s.fr p _ hw hp))
  · exact .inl (.inr ⟨o, s.fr p _ hw hp⟩)
  · exact .inr hp
theorem h_ct (h : d σ H) : tCont (Ends.mk a rt b d) σ H := h
theorem h_bk (h : b σ H) : tBreak (Ends.mk a rt b d) σ H := h
end

/-! ### lists that change -/
def setR {α : Type} (l : List α) (i : Int) (x : α) : Res (List α) := match ixN l.length i with | some j => .ok (l.set j x) | none => .stuck
def Bm (K : PySem.W.Frag) (T : String) (r : V → List V → Hp → VK → Prop) (t : TA) (σ : L2.St) (x : V) (H : Hp) (Q : VK) : Prop := tyV K T x H ∧ t σ H fun xs H2 => r x xs H2 Q
def Bm0 (K : PySem.W.Frag) (T : String) (r : V → List V → Hp → VK → Prop) (σ : L2.St) (x : V) (H : Hp) (Q : VK) : Prop := tyV K T x H ∧ r x [] H Q
section
variable {K : PySem.W.Frag} {σ : L2.St} {B H : Hp} {Q : VK} {p q : Addr} {v y : V} {te to ti : TE} {t : TA} {D' : Ends} {z : TS} {i : Int} {r : V → List V → Hp → VK → Prop}
theorem h_bm {T : String} (h : to σ H fun x H1 => Bm K T r t σ x H1 Q) : tBM K T r to t σ H Q := h
theorem h_bm0 {T : String} (h : to σ H fun x H1 => Bm0 K T r σ x H1 Q) : tBM0 K T r to σ H Q := h
theorem Mu.tyV {ds : List D} (m : Mu K B H p ds) : tyV K "list" (.ref p) H := by
  obtain ⟨hb, xs, hp, _⟩ := m
  exact .inl ⟨rfl, _, .inl (.inl hp)⟩
theorem h_bmL {ds : List D} (m : Mu K B H p ds) (h : t σ H fun xs H2 => r (.ref p) xs H2 Q) : Bm K "list" r t σ (.ref p) H Q := ⟨m.tyV, h⟩
theorem h_bmL0 {ds : List D} (m : Mu K B H p ds) (h : r (.ref p) [] H Q) : Bm0 K "list" r σ (.ref p) H Q := ⟨m.tyV, h⟩
theorem h_append {α : Type} [Enc α] {l : List α} {b : α} (w : Ex B H) (m : Mu K B H p (l.map enc)) (ry : Rep K B y (enc b)) (hz : l.length < 1000000) (h : ∀ H', Stp [p] B H B H' → Mu K B H' p ((l ++ [b]).map enc) → Q .non H') : rAppend (.ref p) [y] H Q := by
  obtain ⟨hb, xs, hp, hr⟩ := id m
  refine ⟨p, xs, y, rfl, rfl, hp, by rw [hr.length, List.length_map]; exact Nat.lt_of_lt_of_le hz (by decide), ?_⟩
  have rl : RepL K B (xs ++ [y]) ((l ++ [b]).map enc) := by
    rw [List.map_append]
    exact hr.append (.cons ry .nil)
  obtain ⟨s, m'⟩ := Stp.mut w m rl
  exact h _ s m'
theorem h_extend {α : Type} [Enc α] {l l2 : List α} (w : Ex B H) (m : Mu K B H p (l.map enc)) (m2 : Mu K B H q (l2.map enc)) (hz : l.length + l2.length ≤ 1000000) (h : ∀ H', Stp [p] B H B H' → Mu K B H' p ((l ++ l2).map enc) → Q .non H') : rExtend (.ref p) [.ref q] H Q := by
  obtain ⟨hb, xs, hp, hr⟩ := id m
  obtain ⟨hb2, ys, hp2, hr2⟩ := id m2
  refine ⟨p, q, xs, ys, rfl, rfl, hp, hp2, by rw [hr.length, hr2.length, List.length_map, List.length_map]; exact Nat.le_trans hz (by decide), ?_⟩
  have rl : RepL K B (xs ++ ys) ((l ++ l2).map enc) := by
    rw [List.map_append]
    exact hr.append hr2
  obtain ⟨s, m'⟩ := Stp.mut w m rl
  exact h _ s m'
theorem RepL.set : ∀ {vs : List V} {ds : List D} {j : Nat} {d : D}, RepL K B vs ds → Rep K B v d → RepL K B (vs.set j v) (ds.set j d)
  | _, _, _, _, .nil, _ => .nil
  | _, _, 0, _, .cons _ t, r => .cons r t
  | _, _, j + 1, _, .cons h t, r => .cons h (RepL.set t r)
theorem Post.set {α β : Type} {l : List α} {x : α} {k : List α → Res β} {P : β → Prop} {R : Err → Prop} (h : Post ((setR l i x).bind k) P R) : ∃ j, ixN l.length i = some j ∧ Post (k (l.set j x)) P R := by
  unfold setR at h
  cases e : ixN l.length i with
  | none => rw [e] at h; exact h.elim
  | some j => rw [e] at h; exact ⟨j, rfl, h⟩
def SubS (K : PySem.W.Frag) (to ti : TE) (σ : L2.St) (v : V) (H : Hp) (N : L2.St → Hp → Prop) : Prop := gSub to ti rSetL v σ H N
theorem h_sub {N : L2.St → Hp → Prop} (h : to σ H fun o H1 => ti σ H1 fun i H2 => rSetL o i v H2 fun H3 => N σ H3) : gSub to ti rSetL v σ H N := h
theorem h_asg {g : TG} (h : te σ H fun x H1 => g x σ H1 D'.nx) : tAsg te g D' σ H := h
theorem h_setL {α : Type} [Enc α] {l : List α} {b : α} {N : Hp → Prop} {j : Nat} (w : Ex B H) (m : Mu K B H p (l.map enc)) (ry : Rep K B v (enc b)) (hj : ixN l.length i = some j) (h : ∀ H', Stp [p] B H B H' → Mu K B H' p ((l.set j b).map enc) → N H') : rSetL (.ref p) (.int i) v H N := by
  obtain ⟨hb, xs, hp, hr⟩ := id m
  refine ⟨p, xs, i, j, rfl, rfl, hp, by rw [hr.length, List.length_map]; exact hj, ?_⟩
  have rl : RepL K B (xs.set j v) ((l.set j b).map enc) := by
    rw [List.map_set]
    exact hr.set ry
  obtain ⟨s, m'⟩ := Stp.mut w m rl
  exact h _ s m'
end

/-- a value with a name -/
def lt {α β : Type} (d : α) (k : α → Res β) : Res β := k d
theorem Post.lt {α β : Type} {d : α} {k : α → Res β} {P : β → Prop} {R : Err → Prop} (h : Post (Y.lt d k) P R) : Post (k d) P R := h

/-! ### lists put together, cut, compared; keywords alone -/
def rCatQ (K : PySem.W.Frag) : R2 := fun x y H Q => ∃ a b xs ys, x = .ref a ∧ y = .ref b ∧ SqL K H a xs ∧ SqL K H b ys ∧ xs.length + ys.length ≤ sizeLine ∧ NwL (xs ++ ys) H Q
theorem op_catQ {X : Cx} : OpR X (binaryOp .Add) (rCatQ X.K) := by
  intro pins s σ H x y v u Q I rx ry h
  obtain ⟨a, b, xs, ys, rfl, rfl, ha, hb, hz, q⟩ := h
  cases rx
  cases ry
  obtain ⟨its, r, p1, z1⟩ := I.list ha
  obtain ⟨its2, r2, p2, z2⟩ := I.list hb
  have hl1 := r.length
  have hl2 := r2.length
  obtain ⟨⟨cls, dd, data, sl⟩, ho, hc, n, hd⟩ := p1.isList
  obtain ⟨⟨cls2, dd2, data2, sl2⟩, ho2, hc2, n2, hd2⟩ := p2.isList
  simp only at hc hd hc2 hd2
  subst hc hd hc2 hd2
  have e : its.toArray ++ its2.toArray = (its ++ its2).toArray := by simp
  refine concat_meets ⟨_, ho, rfl⟩ ⟨_, ho2, rfl⟩ noFill_list_add seq_list_add PySem.F.slot_list_add PySem.F.entry_list_add (PySem.F.args_list_add_2 _ _) (list_addW a b its.toArray its2.toArray n n2 dd dd2 sl sl2 (by rw [List.size_toArray, List.size_toArray]; omega)) ⟨ho, ho2, ?_⟩
  rw [e]
  exact ⟨.ref _, _, I.lnew (t' := s.toks) (r.append r2) (by rw [List.length_append]; omega), rfl, q _ I.fresh⟩
def rSlQ (K : PySem.W.Frag) : V → Option Int → Option Int → Hp → VK → Prop := fun x lo hi H Q => ∃ a xs, x = .ref a ∧ SqL K H a xs ∧ NwL (cutV xs lo hi) H Q
theorem sl_Q {X : Cx} : SlR X (rSlQ X.K) := sl_list
/-- l[lo:hi] -/
def cutL {α : Type} (l : List α) (lo hi : Option Int) : List α := (l.drop (HT.sIx l.length 0 lo)).take (HT.sIx l.length l.length hi - HT.sIx l.length 0 lo)
mutual
/-- as the library's data -/
def pyD : D → PyData
  | .non => .none | .bl b => .bool b | .int i => .int i | .str x => .str x | .lst ds => .list (pyDs ds) | .tup ds => .tuple (pyDs ds) | .dic _ => .dict [] | .obj _ _ => .dict []
def pyDs : List D → List PyData
  | [] => []
  | d :: ds => pyD d :: pyDs ds
end
mutual
/-- no dict within -/
def flatD : D → Bool
  | .lst ds => flatDs ds | .tup ds => flatDs ds | .dic _ => false | .obj _ _ => false | _ => true
def flatDs : List D → Bool
  | [] => true
  | d :: ds => flatD d && flatDs ds
end
/-- == of data -/
def eqD (a b : D) : Bool := PyData.eqv (pyD a) (pyD b)
section
variable {K : PySem.W.Frag} {B B' H H' : Hp}
mutual
theorem Rep.dp (w : Ex B H) : ∀ {v : V} {d : D}, Rep K B v d → flatD d = true → Dp K H v (pyD d)
  | _, _, .non, _ => .non
  | _, _, .bl b, _ => .bl b
  | _, _, .int i, _ => .int i
  | _, _, .str x, _ => .str x
  | _, _, .lst h r, f => .lst (w.l h) (RepL.dp w r f)
  | _, _, .tup h r, f => .tup (w.t h) (RepL.dp w r f)
  | _, _, .dic h r, f => nomatch f
  | _, _, .obj h k r, f => nomatch f
theorem RepL.dp (w : Ex B H) : ∀ {vs : List V} {ds : List D}, RepL K B vs ds → flatDs ds = true → DpAll K H vs (pyDs ds)
  | _, _, .nil, _ => .nil
  | _, _, .cons h t, f => by
    have f' : (flatD _ && flatDs _) = true := f
    rw [Bool.and_eq_true] at f'
    exact .cons (Rep.dp w h f'.1) (RepL.dp w t f'.2)
end
variable {σ : L2.St} {Q : VK} {x y v : V} {d e : D} {p q : Addr} {xs ys : List V} {i j k : Int} {tc te ta tb : TE} {lo hi : Option Int} {to tu : TO}
/-- what may be compared by == here -/
def okEq (d e : D) : Prop := flatD d = true ∧ flatD e = true ∧ SeqAt.shaped (pyD d) = true ∧ SeqAt.shaped (pyD e) = true
instance (d e : D) : Decidable (okEq d e) := by unfold okEq; infer_instance
theorem h_eqD (w : Ex B H) (rx : Rep K B x d) (ry : Rep K B y e) (o : okEq d e) (h : Q (.bl (eqD d e)) H) : rEqD K x y H Q := ⟨_, _, rx.dp w o.1, ry.dp w o.2.1, o.2.2.1, o.2.2.2, h⟩
theorem h_neD (w : Ex B H) (rx : Rep K B x d) (ry : Rep K B y e) (o : okEq d e) (h : Q (.bl (!eqD d e)) H) : rNeD K x y H Q := ⟨_, _, rx.dp w o.1, ry.dp w o.2.1, o.2.2.1, o.2.2.2, h⟩
theorem h_cat (s1 : SqL K H p xs) (s2 : SqL K H q ys) (hz : xs.length + ys.length ≤ sizeLine) (h : NwL (xs ++ ys) H Q) : rCatQ K (.ref p) (.ref q) H Q := ⟨p, q, xs, ys, rfl, rfl, s1, s2, hz, h⟩
theorem RepL.cat {α : Type} [Enc α] {l l2 : List α} (r : RepL K B xs (l.map enc)) (r2 : RepL K B ys (l2.map enc)) : RepL K B (xs ++ ys) ((l ++ l2).map enc) := by
  rw [List.map_append]; exact r.append r2
theorem RepL.take : ∀ {vs : List V} {ds : List D} (n : Nat), RepL K B vs ds → RepL K B (vs.take n) (ds.take n)
  | _, _, 0, _ => .nil
  | _, _, _ + 1, .nil => .nil
  | _, _, n + 1, .cons r t => .cons r (RepL.take n t)
theorem RepL.drop : ∀ {vs : List V} {ds : List D} (n : Nat), RepL K B vs ds → RepL K B (vs.drop n) (ds.drop n)
  | _, _, 0, r => r
  | _, _, _ + 1, .nil => .nil
  | _, _, n + 1, .cons _ t => RepL.drop n t
theorem RepL.cut {α : Type} [Enc α] {l : List α} (r : RepL K B xs (l.map enc)) (lo hi : Option Int) : RepL K B (cutV xs lo hi) ((cutL l lo hi).map enc) := by
  unfold cutV cutL
  rw [List.map_take, List.map_drop, r.length, List.length_map]
  exact (r.drop _).take _
theorem h_sl {r : V → Option Int → Option Int → Hp → VK → Prop} (h : te σ H fun x H1 => to σ H1 fun l H2 => tu σ H2 fun u H3 => r x l u H3 Q) : tSl r te to tu σ H Q := h
theorem h_part {N : Option Int → Hp → Prop} (h : te σ H fun x H1 => ∃ i, x = .int i ∧ N (some i) H1) : tPart te σ H N := h
theorem h_isI {f : Int → Prop} (h : f i) : ∃ j, V.int i = .int j ∧ f j := ⟨i, rfl, h⟩
theorem h_nopart {N : Option Int → Hp → Prop} (h : N none H) : tNoPart σ H N := h
theorem h_slQ (s : SqL K H p xs) (h : NwL (cutV xs lo hi) H Q) : rSlQ K (.ref p) lo hi H Q := ⟨p, xs, rfl, s, h⟩
theorem h_ch {g g' : Int → Int → Bool} (hc : ∀ Q : VK, Q (.int k) H → tc σ H Q) (h : Q (.bl (g i j && g' j k)) H) :
    rI0 (fun i j => .bl (g i j)) (.int i) (.int j) H (fun z H3 => ∃ c, z = .bl c ∧ (if c = true then tc σ H3 fun w' H4 => rI0 (fun i j => .bl (g' i j)) (.int j) w' H4 Q else Q (.bl false) H3)) := by
  refine ⟨i, j, rfl, rfl, g i j, rfl, ?_⟩
  cases e : g i j with
  | true =>
    refine h_iteT (hc _ ?_)
    rw [e, Bool.true_and] at h
    exact ⟨j, k, rfl, rfl, h⟩
  | false =>
    rw [e, Bool.false_and] at h
    exact h_iteF h
end
/-- f(k = v, ..) -/
def tCallK0 (sp : Sp) (gV : List V → List V) (E : XK) (tk : TA) : TE := fun σ H Q => tk σ H fun zs H2 => sp (gV zs) H2 Q E
theorem pe_callK0 {X : Cx} {CX : CXT} {k : Nat} {f : Addr} {fd : FuncData} {ps ks : List Str} {sp : Sp} {E : XK} {x : Str} {p pos : Pos} {kws : List Keyword} {tk : TA} {g : List Value → List Value → List Value} {gV : List V → List V → List V}
    (F : FnOk X.prog X.w X.K X.mg X.base CX k f fd ps sp) (hr : Room k X.A) (hg : Gl X x) (hm : X.mg x = some (.ref f)) (hk : PySem.W.keepIn X.K (.ref f) = true) (hb : KBinds X.K fd ps ks g gV) (hx : Passes CX X E)
    (hkw : PK X kws tk) (hall : (backToKw pos (keywordEach kws X.env)).all (·.1.isSome) = true := by rfl) (hks : (backToKw pos (keywordEach kws X.env)).filterMap (·.1) = ks := by rfl)
    (hdb : (x == ("__debug__" : Str)) = false := by decide)
    (hpl : ((backTo pos (starEach [] X.env)).any (·.1) || (backToKw pos (keywordEach kws X.env)).any (·.1.isNone)) = false := by rfl) :
    PE X (.Call (.Name x p) [] kws pos) (tCallK0 sp (gV []) E tk) := by
  refine ⟨fun pins s σ H Q I h => ?_⟩
  refine wpAny_Call_Name_kw (ld_glob I hg hm ?_ hdb)
  refine PySem.W.callWith_KW0 (h₀ := X.base) I.ok.mod.kin hk hall ?_ hpl
  refine thn (hkw.run pos pins s σ H _ I h) fun ws s2 ⟨zs, H2, I2, rz, q2⟩ => ⟨I2.kIn, ?_⟩
  rw [hks]
  exact run_fnk F hr hb hx I2 .nil rz q2
theorem h_callK0 {σ : L2.St} {H : Hp} {Q : VK} {sp : Sp} {gV : List V → List V} {E : XK} {tk : TA} (h : tk σ H fun zs H2 => sp (gV zs) H2 Q E) : tCallK0 sp gV E tk σ H Q := h
theorem h_callK {σ : L2.St} {H : Hp} {Q : VK} {sp : Sp} {gV : List V → List V → List V} {E : XK} {t tk : TA} (h : t σ H fun vs H1 => tk σ H1 fun zs H2 => sp (gV vs zs) H2 Q E) : tCallK sp gV E t tk σ H Q := h
theorem hu64_of {A : Around} {k : Nat} (hr : Room k A) : A.units + 64 < cLine := Nat.lt_of_le_of_lt (Nat.add_le_add_left (by decide : 64 ≤ 64) _) hr.units

/-! ### dicts as data -/
section
variable {K : PySem.W.Frag} {B H : Hp} {σ : L2.St} {Q : VK} {tk tv : TE} {v : V} {d : D} {i : Int} {p : Addr} {xs : List V}
theorem h_disp1I (hk : ∀ (H' : Hp) (Q : VK), Q (.int i) H' → tk σ H' Q) (hv : ∀ (H' : Hp) (Q : VK), Q v H' → tv σ H' Q) (w : Ex B H) (rv : Rep K B v d)
    (h : ∀ p B' H', Stp [] B H B' H' → Rep K B' (.ref p) (.dic [(.inl i, d)]) → Q (.ref p) H') : tDisp [(tk, tv)] σ H Q := fun p hp => by
  show tk σ (upd H p (.dK [])) _
  refine hk _ _ (hv _ _ ⟨upd_same, [(.inl i, v)], rfl, (by show 1 ≤ 15; decide), ?_⟩)
  rw [upd_upd]
  have hb := w.none hp
  exact h p _ _ (Stp.new w hp) (.dic upd_same (.cons (rv.mono (Ex.new hb)) .nil))
theorem h_dnew (w : Ex B H) (h : ∀ p B' H', Stp [] B H B' H' → Rep K B' (.ref p) (.dic []) → Q (.ref p) H') : tDNewK σ H Q := fun p hp => h p _ _ (Stp.new w hp) (.dic upd_same .nil)
def rDictP (K : PySem.W.Frag) : List V → Hp → VK → Prop := fun xs H Q => ∃ (a : Addr) (ps : List Addr) (kvs : List (Key × V)), xs = [.ref a] ∧ SqL K H a (ps.map V.ref) ∧ Paired (fun p kv => SqT K H p [kV kv.1, kv.2]) ps kvs ∧
    ∀ p, H p = none → Q (.ref p) (upd H p (.dK (mergeK [] kvs)))
theorem cr_dict {X : Cx} (hc : X.calm = true) : CallR X (.type "dict") (rDictP X.K) := call_dictP hc
def vD : V → D
  | .int i => .int i | .bl b => .bl b | .str x => .str x | _ => .non
/-- dict(pairs of ints), as data -/
def dictI (l : List (Tp2 Int Int)) : List (Key × D) := (mergeK [] (l.map fun t => ((Sum.inl t.a : Key), V.int t.b))).map fun kv => (kv.1, vD kv.2)
theorem putK_ints {kvs : List (Key × V)} {k : Key} {j : Int} (h : ∀ kv ∈ kvs, ∃ i, kv.2 = V.int i) : ∀ kv ∈ putK kvs k (V.int j), ∃ i, kv.2 = V.int i := by
  intro kv m
  unfold putK at m
  split at m
  · obtain ⟨q, hq, e⟩ := List.mem_map.mp m
    rw [← e]
    split
    · exact ⟨j, rfl⟩
    · exact h q hq
  · rcases List.mem_append.mp m with m | m
    · exact h kv m
    · rw [List.mem_singleton.mp m]; exact ⟨j, rfl⟩
theorem merge_ints : ∀ {l : List (Tp2 Int Int)} {acc : List (Key × V)}, (∀ kv ∈ acc, ∃ i, kv.2 = V.int i) → ∀ kv ∈ mergeK acc (l.map fun t => ((Sum.inl t.a : Key), V.int t.b)), ∃ i, kv.2 = V.int i
  | [], _, h => h
  | t :: r, acc, h => merge_ints (l := r) (putK_ints h)
theorem RepK.ints : ∀ {kvs : List (Key × V)}, (∀ kv ∈ kvs, ∃ i, kv.2 = V.int i) → RepK K B kvs (kvs.map fun kv => (kv.1, vD kv.2))
  | [], _ => .nil
  | (k, v) :: r, h => by
    obtain ⟨i, e⟩ := h (k, v) List.mem_cons_self
    have e' : v = V.int i := e
    subst e'
    exact .cons (.int i) (RepK.ints fun kv m => h kv (List.mem_cons_of_mem _ m))
theorem pairs_D (w : Ex B H) : ∀ {xs : List V} {l : List (Tp2 Int Int)}, RepL K B xs (l.map enc) → ∃ ps : List Addr, xs = ps.map V.ref ∧ Paired (fun p (kv : Key × V) => SqT K H p [kV kv.1, kv.2]) ps (l.map fun t => ((Sum.inl t.a : Key), V.int t.b))
  | [], [], _ => ⟨[], rfl, .nil⟩
  | _ :: _, [], r => nomatch r
  | [], _ :: _, r => nomatch r
  | v :: vs, t :: l, r => by
    cases r with
    | cons h q =>
      obtain ⟨ps, e, pr⟩ := pairs_D w q
      obtain ⟨p, ys, rfl, hs, hr⟩ := Rep.st w (show Rep K B v (.tup [enc t.a, enc t.b]) from h)
      cases hr with
      | cons h1 t1 =>
        cases t1 with
        | cons h2 t2 =>
          cases t2
          cases h1
          cases h2
          exact ⟨p :: ps, by rw [e]; rfl, .cons hs pr⟩
theorem h_dictP {l : List (Tp2 Int Int)} (w : Ex B H) (s : SqL K H p xs) (r : RepL K B xs (l.map enc)) (h : ∀ p B' H', Stp [] B H B' H' → Rep K B' (.ref p) (.dic (dictI l)) → Q (.ref p) H') : rDictP K [.ref p] H Q := by
  obtain ⟨ps, e, pr⟩ := pairs_D w r
  subst e
  exact ⟨p, ps, _, rfl, s, pr, fun q hq => h q _ _ (Stp.new w hq) (.dic upd_same (RepK.ints (merge_ints fun _ m => nomatch m)))⟩
end
theorem RepL.toD {K : PySem.W.Frag} {B : Hp} {α : Type} [Enc α] {xs : List V} {l : List α} (r : RepL K B xs (l.map enc)) : RepL K B xs ((l.map enc : List D).map enc) := by
  have e : (l.map enc : List D).map enc = l.map enc := List.map_id' _
  rw [e]; exact r
/-- a thing that is an int -/
def asI (d : D) : Res Int := match d with | .int i => .ok i | _ => .stuck
theorem Post.asI {β : Type} {d : D} {k : Int → Res β} {P : β → Prop} {R : Err → Prop} (h : Post ((Y.asI d).bind k) P R) : ∃ i, d = .int i ∧ Post (k i) P R := by
  cases d with
  | int i => exact ⟨i, rfl, h⟩
  | _ => exact h.elim
/-- a pair taken apart -/
def un2 {α β γ : Type} (k : α → β → γ) (p : α × β) : γ := k p.1 p.2
theorem Post.un2 {α β γ : Type} {k : α → β → Res γ} {a : α} {b : β} {P : γ → Prop} {R : Err → Prop} (h : Post (Y.un2 k (a, b)) P R) : Post (k a b) P R := h
/-- a thing that is a list | a tuple -/
def asL (d : D) : Res (List D) := match d with | .lst l => .ok l | _ => .stuck
def asT (d : D) : Res (List D) := match d with | .tup l => .ok l | _ => .stuck
theorem enc_Ds (l : List D) : (l.map enc : List D) = l := List.map_id' _
theorem Post.asL {β : Type} {d : D} {k : List D → Res β} {P : β → Prop} {R : Err → Prop} (h : Post ((Y.asL d).bind k) P R) : ∃ l : List D, d = .lst (l.map enc) ∧ Post (k l) P R := by
  cases d with
  | lst l => exact ⟨l, by rw [enc_Ds], h⟩
  | _ => exact h.elim
theorem Post.asT {β : Type} {d : D} {k : List D → Res β} {P : β → Prop} {R : Err → Prop} (h : Post ((Y.asT d).bind k) P R) : ∃ l : List D, d = .tup (l.map enc) ∧ Post (k l) P R := by
  cases d with
  | tup l => exact ⟨l, by rw [enc_Ds], h⟩
  | _ => exact h.elim
section
variable {K : PySem.W.Frag} {B H : Hp} {Q : VK} {p : Addr} {xs : List V}
theorem RepL.bools : ∀ {xs : List V} {bs : List Bool}, RepL K B xs (bs.map enc) → xs = bs.map V.bl
  | [], [], _ => rfl
  | _ :: _, [], r => nomatch r
  | [], _ :: _, r => nomatch r
  | v :: vs, b :: bs, r => by
    cases r with
    | cons h t =>
      cases h
      rw [RepL.bools t]
      rfl
theorem RepL.intsV : ∀ {xs : List V} {bs : List Int}, RepL K B xs (bs.map enc) → xs = bs.map V.int
  | [], [], _ => rfl
  | _ :: _, [], r => nomatch r
  | [], _ :: _, r => nomatch r
  | v :: vs, b :: bs, r => by
    cases r with
    | cons h t =>
      cases h
      rw [RepL.intsV t]
      rfl
theorem h_all {bs : List Bool} (s : SqL K H p xs) (r : RepL K B xs (bs.map enc)) (h : Q (.bl (bs.all id)) H) : rAll K [.ref p] H Q := ⟨p, bs, rfl, by rw [← r.bools]; exact s, h⟩
theorem h_any {bs : List Bool} (s : SqL K H p xs) (r : RepL K B xs (bs.map enc)) (h : Q (.bl (bs.any id)) H) : rAny K [.ref p] H Q := ⟨p, bs, rfl, by rw [← r.bools]; exact s, h⟩
theorem h_sum {ns : List Int} (s : SqL K H p xs) (r : RepL K B xs (ns.map enc)) (h : Q (.int ns.sum) H) : rSum K [.ref p] H Q := ⟨p, ns, rfl, by rw [← r.intsV]; exact s, h⟩
end
/-! ### the top -/
/-- the law's promise -/
def spTop (K : PySem.W.Frag) : Sp := fun vs H Q _ => ∃ (a : Addr) (ns : List Int), vs = [.ref a] ∧ ns.length ≤ 63 ∧ SqL K H a (ns.map V.int) ∧ ∀ H', Q (.bl true) H'
theorem top_of {K : PySem.W.Frag} {m : List Int → Res Bool} (hm : ∀ ns : List Int, ns.length ≤ 63 → m ns = .ok true) {vs : List V} {H : Hp} {Q : VK} {E : XK} (h : spTop K vs H Q E) :
    ∃ (B : Hp) (v : V) (a : List Int), Ex B H ∧ vs = [v] ∧ Bor K B H [] v (a.map enc) ∧ Post (m a) (fun r => Ret K [] B H (enc r) Q) (fun _ => False) := by
  obtain ⟨a, ns, e, hl, hs, k⟩ := h
  refine ⟨H, .ref a, ns, Ex.refl H, e, ⟨a, _, rfl, ?_, RepL.ints ns⟩, ?_⟩
  · rcases hs with hs | hs
    · exact .inl ⟨hs, fun z => nomatch z⟩
    · exact .inr hs
  · rw [hm ns hl]
    refine ⟨fun v B' H' st r => ?_⟩
    cases r
    exact k H'
theorem walk_top {l : PySem.W.OpenLaw} {q : Program} {loose : List Str} {XP : (Str → Option Value) → Heap → Prop} {YP : World → Heap → Prop} {d : DefRec} {K : Params → PySem.W.Frag} {x : Str} {k : Nat} (hn : l.most = some 63) (hdf : d.params.defaults = [])
    (hr : Room k callerA) (hY : ∀ (w : World) (h : Heap), YP w h → (K w.params).In h)
    (F : ∀ (w : World) (mg : Str → Option Value) (fa : Addr) (h : Heap), (K w.params).In h → h.Ns mainGlobals mg → mg d.name = some (.ref fa) →
      ∃ fd : FuncData, (∀ (s : Shared) (u : Value), BindsTo s fd ⟨[u], []⟩ [(x, u)]) ∧ ∀ base : Heap, (K w.params).In base → base.Ns mainGlobals mg → FnOk l.prog w (K w.params) mg base CX0 k fa fd [x] (spTop (K w.params))) :
    PySem.W.WalkO q loose XP YP l.row.toRowW d [] (fun f vs => PySem.call f vs) :=
  L2.walk_of (n := 63) (k := k) (x := x) (CX := fun _ => CX0) (sp := fun w => spTop (K w.params)) hn (by decide) hdf hr hY F (fun _ _ a ns hl _ hS => ⟨a, ns, rfl, hl, hS, fun _ => rfl⟩) fun _ _ _ _ _ z => z
/-- how its arguments bind by keywords -/
theorem _root_.L2.Fun.kb {K : PySem.W.Frag} {x qual : Str} {st : Stmt} {f : Addr} {fd : FuncData} {ps ks : List Str} {g : List Value → List Value → List Value} {gV : List V → List V → List V} (F : Fun K x qual st f fd)
    (h : ∀ (kV doc pm : Value) (an : Option Addr) (cdv ct : Value) (us ws : List Value), (g us ws).length = ps.length → bindArgs (PySem.W.fnOf x qual (defArgs st) (defBody st) (defScope st) .none kV doc pm an cdv ct) ⟨us, ks.zip ws⟩ = pure (ps.zip (g us ws)))
    (r : ∀ {vs : List V} {us : List Value} {zs : List V} {ws : List Value}, Vals vs us → Vals zs ws → Vals (gV vs zs) (g us ws)) : KBinds K fd ps ks g gV := by
  obtain ⟨oc, od, kV, doc, pm, an, cdv, ct, osl, rfl, lk, hcd⟩ := F.ex
  exact ⟨fun s us ws _ hl => .of_eq (h kV doc pm an cdv ct us ws hl), r⟩

/-! ### while -/
def whileR {S R : Type} : Nat → S → (S → Res (Fl S R)) → Res (Fl S R)
  | 0, _, _ => .stuck
  | n + 1, s, g => (g s).bind fun r => match r with | .nx s' => whileR n s' g | r => .ok r
section
variable {K : PySem.W.Frag} {σ : L2.St} {H : Hp} {Q : VK} {tb t : TS} {c : TT} {D' : Ends} {S β : Type} {P : β → Prop} {E : Err → Prop}
theorem h_while {n : Nat} {s0 : S} {f : S → Res (Fl S β)} {k : S → Res β} (hP : Post ((whileR n s0 f).bind (afterR k)) P E) (J : S → L2.St → Hp → Prop) (h0 : J s0 σ H)
    (hb : ∀ (N : L2.St → Hp → Prop) (C : (L2.St → Hp → Prop) → Prop) (T : Fl S β → Prop) s σ' H', J s σ' H' → C N → (∀ s' σ2 H2, J s' σ2 H2 → T (.nx s') → N σ2 H2) → (∀ r, T (.rt r) → P r) → (∀ s' σ2 H2, J s' σ2 H2 → T (.bk s') → D'.nx σ2 H2) → Post (f s) T E →
      c σ' H' fun b H1 => if b = true then ∃ N, C N ∧ tb { D' with nx := N, ct := N, bk := D'.nx } σ' H1 else D'.nx σ' H1)
    (hd : ∀ s σ' H', J s σ' H' → Post (k s) P E → D'.nx σ' H') : tWhile c tb D' σ H := by
  refine ⟨fun m σ' H' => ∃ s, J s σ' H' ∧ Post (whileR m s f) (fun a => Post (afterR k a) P E) E, ⟨n, s0, h0, hP.bind⟩, ?_⟩
  rintro m σ' H' ⟨s, j, q⟩
  cases m with
  | zero => exact Post.elim q
  | succ m =>
    refine hb (fun σ2 H2 => ∃ s', J s' σ2 H2 ∧ Post (whileR m s' f) (fun a => Post (afterR k a) P E) E) (fun N => ∀ σ2 H2, N σ2 H2 → ∃ m', m' < m + 1 ∧ ∃ s, J s σ2 H2 ∧ Post (whileR m' s f) (fun a => Post (afterR k a) P E) E)
      (fun r => match r with | .nx s' => Post (whileR m s' f) (fun a => Post (afterR k a) P E) E | .rt r => Post (.ok r) P E | .bk s' => Post (k s') P E) s σ' H' j (fun σ2 H2 h => ⟨m, Nat.lt_succ_self m, h⟩)
      (fun s' σ2 H2 j2 t2 => ⟨s', j2, t2⟩) (fun r t2 => Post.ok t2) (fun s' σ2 H2 j2 t2 => hd s' σ2 H2 j2 t2) ?_
    refine (Post.bind q).mono (fun r q => ?_) fun _ q => q
    cases r with
    | nx s' => exact q
    | rt r => exact q.ok
    | bk s' => exact q.ok
theorem h_par {i j : Nat} {ta : TA} (h : ta σ H fun vs H1 => ∃ v w, vs = [v, w] ∧ D'.nx ((σ.set i (some v)).set j (some w)) H1) : tPar i j ta D' σ H := h
theorem h_two {N : V → V → Prop} {x y : V} (h : N x y) : ∃ v w, [x, y] = [v, w] ∧ N v w := ⟨x, y, rfl, h⟩

/-! ### errors -/
def tryR {α : Type} (m : Res α) (h : Err → Res α) : Res α := match m with | .ok a => .ok a | .err e => h e | .stuck => .stuck
theorem Post.tr {α : Type} {m : Res α} {h : Err → Res α} {P : α → Prop} {R : Err → Prop} (q : Post (tryR m h) P R) : Post m P (fun e => Post (h e) P R) := by
  obtain ⟨q⟩ := q
  refine ⟨?_⟩
  cases m
  · exact q
  · exact ⟨q⟩
  · exact q
theorem h_tryJ {m : Res (Fl S β)} {h : Err → Res (Fl S β)} {k : S → Res β} (hP : Post ((tryR m h).bind (afterR k)) P E) (J : S → L2.St → Hp → Prop)
    (h1 : ∀ (N : L2.St → Hp → Prop) (T : Fl S β → Prop), (∀ s σ' H', J s σ' H' → T (.nx s) → N σ' H') → (∀ r, T (.rt r) → P r) → Post m T (fun e => Post (h e) T E) → t { D' with nx := N } σ H)
    (h2 : ∀ s σ' H', J s σ' H' → Post (k s) P E → D'.nx σ' H') : t D' σ H := by
  refine h1 _ (fun a => Post (afterR k a) P E) (fun s σ' H' j q => h2 s σ' H' j q) (fun r q => (q : Post (.ok r) P E).ok) ?_
  exact (Post.bind hP).tr
/-- what the written part says of an error's class -/
structure ExcT (K : PySem.W.Frag) (mg : Str → Option Value) (nm : Str) (C : Addr) : Prop where
  g : mg nm = some (.ref C)
  ec : ExcC K C
  ty : PySem.W.typeIn K (.ref C) = some (.type "type")
  kp : PySem.W.keepIn K (.ref C) = true
  ve : PySem.W.subIn K (.ref C) (.type "ValueError") = some true
  is : PySem.W.isClsIn K C = true
  self : PySem.W.subIn K (.ref C) (.ref C) = some true
/-- an error that is raised with a text alone -/
structure ExcR (K : PySem.W.Frag) (mg : Str → Option Value) (nm : Str) (C : Addr) : Prop extends ExcT K mg nm C where
  ex : PySem.W.excIn K C [.type "ValueError", .type "Exception", .type "BaseException", .type "object"] "ValueError.__new__" = true
theorem ExcT.names {X : Cx} {nm : Str} {C : Addr} (T : ExcT X.K X.mg nm C) (hg : Gl X nm) (hd : (nm == ("__debug__" : Str)) = false) : Names X nm (.ref C) := ⟨hg, hd, .inl T.g⟩
theorem ExcT.exm {mg : Str → Option Value} {nm : Str} {C : Addr} (T : ExcT K mg nm C) {cls : Value} {b : Bool} (h : PySem.W.subIn K cls (.ref C) = some b) : PySem.W.exmOne K cls (.ref C) = some b := PySem.W.exm_ref T.ec.hs T.ec.hd T.ty h
theorem ExcT.kit {mg : Str → Option Value} {nm : Str} {C C2 : Addr} (T : ExcT K mg nm C) {b : Bool} (h : PySem.W.subIn K (.ref C2) (.ref C) = some b) : PySem.W.kitOne K (.ref C2) (.ref C) = some b := by
  unfold PySem.W.kitOne
  by_cases e : (Value.ref C2 == Value.ref C) = true
  · rw [if_pos e]
    have e2 : C2 = C := Value.ref.inj (beq_iff_eq.mp e)
    subst e2
    exact T.self.symm.trans h
  · rw [if_neg e]
    have h2 : (PySem.W.clsIn K C).isSome = true := T.is
    show (if ((PySem.W.clsIn K C).isSome && PySem.W.typeIn K (.ref C) == some (.type "type")) = true then PySem.W.subIn K (.ref C2) (.ref C) else none) = some b
    rw [if_pos (by rw [h2, T.ty] <;> rfl)]
    exact h
theorem ExcT.kitVE {mg : Str → Option Value} {nm : Str} {C : Addr} (T : ExcT K mg nm C) : PySem.W.kitOne K (.ref C) (.type "ValueError") = some true := by
  unfold PySem.W.kitOne
  rw [if_neg (by simp)]
  show (if PySem.W.kitMeta "ValueError" = true then PySem.W.subIn K (.ref C) (.type "ValueError") else none) = some true
  rw [if_pos (by decide +kernel)]
  exact T.ve
def tIsE (K : PySem.W.Frag) (a : Addr) (cls : Value) (d : Option Addr) (targs : TA) : TE := fun σ H Q => ∃ Dc, cls = .ref Dc ∧ d = none ∧ ExcC K Dc ∧ tCB (rIsE K Dc a) targs σ H Q
theorem pe_isE {X : Cx} {e : Expr} {a : Addr} {cls : Value} {d : Option Addr} {targs : TA} (hK : X.K = K) (h : ∀ Dc, cls = .ref Dc → d = none → ExcC K Dc → PE X e (tCB (rIsE K Dc a) targs)) : PE X e (tIsE K a cls d targs) :=
  ⟨fun pins s σ H Q I q => by
    obtain ⟨Dc, e1, e2, ec, q⟩ := q
    exact (h Dc e1 e2 ec).run pins s σ H Q I q⟩
theorem h_isE {a C : Addr} {targs : TA} {mg : Str → Option Value} {nm : Str} (T : ExcT K mg nm C) (h : targs σ H fun vs H1 => rIsE K C a vs H1 Q) : tIsE K a (.ref C) none targs σ H Q := ⟨C, rfl, rfl, T.ec, h⟩
theorem h_isER {a C C2 : Addr} {b : Bool} (h : PySem.W.kitOne K (.ref C) (.ref C2) = some b) (q : Q (.bl b) H) : rIsE K C a [.ref a, .ref C2] H Q := ⟨.ref C2, .ref C2, b, rfl, fun _ r => r, h, q⟩
theorem h_isEB {a C : Addr} {n : String} {b : Bool} (h : PySem.W.kitOne K (.ref C) (.type n) = some b) (q : Q (.bl b) H) : rIsE K C a [.ref a, .ty n] H Q := ⟨.ty n, .type n, b, rfl, fun _ r => r, h, q⟩
/-- the clause of a try meets the error -/
theorem h_wAs {C S' : Addr} {i : Nat} {ts : Addr → Value → Option Addr → TS} {Wout : WX} {mg : Str → Option Value} {nm : Str} (T : ExcT K mg nm S') (hs : PySem.W.subIn K (.ref C) (.ref S') = some true)
    (h : ∀ a, H a = none → ts a (.ref C) none { nx := fun σ' H' => D'.nx (σ'.set i none) H', rt := D'.rt, bk := fun σ' H' => D'.bk (σ'.set i none) H', ct := fun σ' H' => D'.ct (σ'.set i none) H' } (σ.set i (some (.ref a))) H) :
    wAs K (.ref S') i ts Wout D' (.ref C) none σ H := ⟨true, T.exm hs, fun _ a ha => h a ha, fun q => nomatch q⟩
theorem h_wOnly {C S' : Addr} {ts : Addr → Value → Option Addr → TS} {Wout : WX} {mg : Str → Option Value} {nm : Str} (T : ExcT K mg nm S') (hs : PySem.W.subIn K (.ref C) (.ref S') = some true)
    (h : ∀ a, H a = none → ts a (.ref C) none D' σ H) : wOnly K (.ref S') ts Wout D' (.ref C) none σ H := ⟨true, T.exm hs, fun _ a ha => h a ha, fun q => nomatch q⟩
end

/-! ### a try by its name -/
def tTryA (K : PySem.W.Frag) (c : Value) (i : Nat) (ts : Addr → Value → Option Addr → TS) (Wout : WX) (tb : WX → TS) : TS := fun D σ H => tb (wAs K c i ts Wout D) D σ H
def tTryO (K : PySem.W.Frag) (c : Value) (ts : Addr → Value → Option Addr → TS) (Wout : WX) (tb : WX → TS) : TS := fun D σ H => tb (wOnly K c ts Wout D) D σ H
section
variable {X : Cx} {n x : Str} {c : Value} {i : Nat} {body suite : List Stmt} {b₀ : Stmt} {np pos pos' : Pos} {tb : WX → TS} {ts : Addr → Value → Option Addr → TS} {Wout : WX} {D' : Ends} {σ : L2.St} {H : Hp} {K : PySem.W.Frag}
theorem ps_tryA (hs : X.stack = X.env :: X.outer) (hf : X.env.frame = some X.env.locals) (hN : X.N.Nodup) (hi : X.N[i]? = some n) (hln : X.env.kindOf n = some .local) (hc : Names X x c) (tk : Takes X Wout)
    (hb : ∀ (W : WX) (pn : List (Addr × Obj)) (xe : Value → Shared → Prop), Takes (X.tr pn xe) W → PassesOwn (model X.prog X.w) X.A X.env xe → PSs (X.tr pn xe) body (tb W))
    (hsu : ∀ (a : Addr) (oe : Obj) (cls : Value) (d : Option Addr) (pn : List (Addr × Obj)), Zc cls d oe → (∃ vs, oe.data = .fields vs) → PSs (X.suite a ((a, oe) :: pn)) (b₀ :: suite) (ts a cls d)) (hK : X.K = K := by rfl) :
    PS X (.Try body [.ExceptHandler (some (.Name x np)) (some n) (b₀ :: suite) pos'] [] [] pos) (tTryA K c i ts Wout tb) := hK ▸ ps_try_as hs hf hN hi hln hc tk hb hsu
theorem ps_tryO (hs : X.stack = X.env :: X.outer) (hf : X.env.frame = some X.env.locals) (hc : Names X x c) (tk : Takes X Wout)
    (hb : ∀ (W : WX) (pn : List (Addr × Obj)) (xe : Value → Shared → Prop), Takes (X.tr pn xe) W → PassesOwn (model X.prog X.w) X.A X.env xe → PSs (X.tr pn xe) body (tb W))
    (hsu : ∀ (a : Addr) (oe : Obj) (cls : Value) (d : Option Addr) (pn : List (Addr × Obj)), Zc cls d oe → (∃ vs, oe.data = .fields vs) → PSs (X.suite a ((a, oe) :: pn)) (b₀ :: suite) (ts a cls d)) (hK : X.K = K := by rfl) :
    PS X (.Try body [.ExceptHandler (some (.Name x np)) none (b₀ :: suite) pos'] [] [] pos) (tTryO K c ts Wout tb) := hK ▸ ps_try_only hs hf hc tk hb hsu
theorem h_tryA (h : tb (wAs K c i ts Wout D') D' σ H) : tTryA K c i ts Wout tb D' σ H := h
theorem h_tryO (h : tb (wOnly K c ts Wout D') D' σ H) : tTryO K c ts Wout tb D' σ H := h
end
theorem Post.mono2 {α : Type} {m : Res α} {P P' : α → Prop} {R R' : Err → Prop} (h : Post m P R) (hr : ∀ e, R e → R' e) (hp : ∀ a, P a → P' a) : Post m P' R' := h.mono hp hr
theorem boot_ValueError : bootBuiltins "ValueError" = some (.type "ValueError") := by decide +kernel
/-! ### things that are lists or tuples -/
def lenD (d : D) : Res Int := match d with | .lst l => .ok l.length | .tup l => .ok l.length | .str x => .ok x.length | _ => .stuck
section
variable {K : PySem.W.Frag} {B H : Hp} {Q : VK} {v : V} {d : D} {σ : L2.St} {g : TGs}
theorem Post.lenD {β : Type} {k : Int → Res β} {P : β → Prop} {R : Err → Prop} (h : Post ((Y.lenD d).bind k) P R) (hs : ∀ x, d ≠ .str x) : ∃ ds : List D, (d = .lst ds ∨ d = .tup ds) ∧ Post (k ds.length) P R := by
  cases d with
  | lst l => exact ⟨l, .inl rfl, h⟩
  | tup l => exact ⟨l, .inr rfl, h⟩
  | str x => exact absurd rfl (hs x)
  | _ => exact h.elim
theorem h_tupG {n : Nat} {p : Addr} {xs : List V} {N : L2.St → Hp → Prop} (s : SqT K H p xs) (hl : xs.length = n) (h : g xs σ H N) : gTup K n g (.ref p) σ H N := ⟨p, xs, rfl, s, hl, h⟩
theorem h_gcons {t : TG} {u : TGs} {x : V} {xs : List V} {N : L2.St → Hp → Prop} (h : t x σ H fun σ' H' => u xs σ' H' N) : gCons t u (x :: xs) σ H N := ⟨x, xs, rfl, h⟩
theorem h_gnil {N : L2.St → Hp → Prop} (h : N σ H) : gNil [] σ H N := ⟨rfl, h⟩
end

section
variable {K : PySem.W.Frag} {B H : Hp} {Q : VK} {p : Addr} {xs : List V} {d1 d2 d3 d4 d5 : D}
theorem h_lenTl {l : List D} (s : SqT K H p xs) (r : RepL K B xs (l.map enc)) (h : Q (.int l.length) H) : rLenY K [V.ref p] H Q := by
  refine ⟨p, xs, rfl, .inr s, ?_⟩
  rw [show xs.length = l.length from by rw [r.length, List.length_map]]
  exact h
theorem tup2 {x y : V} (hl : xs.length = 2) (h0 : atI xs 0 = some x) (h1 : atI xs 1 = some y) : xs = [x, y] := by
  match xs, hl with
  | [a, b], _ =>
    have e0 : a = x := Option.some.inj h0
    have e1 : b = y := Option.some.inj h1
    rw [e0, e1]
theorem tup3 {x y z : V} (hl : xs.length = 3) (h0 : atI xs 0 = some x) (h1 : atI xs 1 = some y) (h2 : atI xs 2 = some z) : xs = [x, y, z] := by
  match xs, hl with
  | [a, b, c], _ =>
    have e0 : a = x := Option.some.inj h0
    have e1 : b = y := Option.some.inj h1
    have e2 : c = z := Option.some.inj h2
    rw [e0, e1, e2]
theorem tup4 {x y z u : V} (hl : xs.length = 4) (h0 : atI xs 0 = some x) (h1 : atI xs 1 = some y) (h2 : atI xs 2 = some z) (h3 : atI xs 3 = some u) : xs = [x, y, z, u] := by
  match xs, hl with
  | [a, b, c, d], _ =>
    have e0 : a = x := Option.some.inj h0
    have e1 : b = y := Option.some.inj h1
    have e2 : c = z := Option.some.inj h2
    have e3 : d = u := Option.some.inj h3
    rw [e0, e1, e2, e3]
theorem RepL.open2 (r : RepL K B xs [d1, d2]) : ∃ u1 u2, xs = [u1, u2] ∧ Rep K B u1 d1 ∧ Rep K B u2 d2 := by
  cases r with | cons h1 r => cases r with | cons h2 r => cases r; exact ⟨_, _, rfl, h1, h2⟩
theorem RepL.open3 (r : RepL K B xs [d1, d2, d3]) : ∃ u1 u2 u3, xs = [u1, u2, u3] ∧ Rep K B u1 d1 ∧ Rep K B u2 d2 ∧ Rep K B u3 d3 := by
  cases r with | cons h1 r => cases r with | cons h2 r => cases r with | cons h3 r => cases r; exact ⟨_, _, _, rfl, h1, h2, h3⟩
theorem RepL.open4 (r : RepL K B xs [d1, d2, d3, d4]) : ∃ u1 u2 u3 u4, xs = [u1, u2, u3, u4] ∧ Rep K B u1 d1 ∧ Rep K B u2 d2 ∧ Rep K B u3 d3 ∧ Rep K B u4 d4 := by
  cases r with | cons h1 r => cases r with | cons h2 r => cases r with | cons h3 r => cases r with | cons h4 r => cases r; exact ⟨_, _, _, _, rfl, h1, h2, h3, h4⟩
end
/-! ### defs with defaults -/
structure FunV (K : PySem.W.Frag) (x qual : Str) (st : Stmt) (dv : List Value) (f : Addr) (fd : FuncData) : Prop where
  ex : ∃ (oc : Value) (od : Option Addr) (T : Addr) (o : Obj) (n : Nat) (kV doc pm : Value) (an : Option Addr) (cdv ct : Value) (osl : Array (Option Value)),
    fd = PySem.W.fnOf x qual (defArgs st) (defBody st) (defScope st) (.ref T) kV doc pm an cdv ct ∧ K.lookup f = some ⟨oc, od, .func fd, osl⟩ ∧ PySem.W.codeIn K cdv qual = true ∧ K.lookup T = some o ∧ o.data = .seq dv.toArray n
  kp : PySem.W.keepIn K (.ref f) = true
section
variable {P : Program} {w : World} {K : PySem.W.Frag} {mg : Str → Option Value} {base : Heap} {x qual : Str} {st : Stmt} {dv : List Value} {f : Addr} {fd : FuncData} {ps ks : List Str}
theorem funV_mk {oc : Value} {od an oT : Option Addr} {osl sT : Array (Option Value)} {kV doc pm cdv ct cT : Value} {T : Addr} {n : Nat} (l : K.lookup f = some ⟨oc, od, .func (PySem.W.fnOf x qual (defArgs st) (defBody st) (defScope st) (.ref T) kV doc pm an cdv ct), osl⟩)
    (c : PySem.W.codeIn K cdv qual = true) (k : PySem.W.keepIn K (.ref f) = true) (lT : K.lookup T = some ⟨cT, oT, .seq dv.toArray n, sT⟩) : FunV K x qual st dv f (PySem.W.fnOf x qual (defArgs st) (defBody st) (defScope st) (.ref T) kV doc pm an cdv ct) :=
  ⟨⟨oc, od, T, _, n, kV, doc, pm, an, cdv, ct, osl, rfl, l, c, lT, rfl⟩, k⟩
theorem FunV.okX {N : List Str} {k : Nat} {sp : Sp} (F : FunV K x qual st dv f fd) (S : FnScope N ps (defScope st)) (len : ∀ vs H Q E, sp vs H Q E → vs.length = ps.length)
    (hbody : ∀ (cdv : Value) (A : Around) (outer : List Env) (s : Shared) (H : Hp) (vs : List V) (Q : VK) (E : XK), Room k (A.deeper (envOfC qual (defScope st) s.heap.objs.size f cdv)) → sp vs H Q E →
      ∃ t, PSs (cxOf (L2.CX P w) P w K mg base N qual (defScope st) f cdv A outer s H E) (defBody st) t ∧ t { nx := fun _ H' => Q .non H', rt := Q } (start N vs) H) : FnOk P w K mg base (L2.CX P w) (k + 1) f fd ps sp := by
  obtain ⟨oc, od, T, o, n, kV, doc, pm, an, cdv, ct, osl, rfl, lk, hcd, _, _⟩ := F.ex
  exact fn_of lk hcd S len fun A outer s H vs Q E hr hsp => hbody cdv A outer s H vs Q E hr hsp
theorem FunV.ok {N : List Str} {k : Nat} {sp : Sp} (F : FunV K x qual st dv f fd) (S : FnScope N ps (defScope st)) (len : ∀ vs H Q E, sp vs H Q E → vs.length = ps.length)
    (hbody : ∀ (cdv : Value) (A : Around) (outer : List Env) (s : Shared) (H : Hp) (vs : List V) (Q : VK) (E : XK), Room k (A.deeper (envOfC qual (defScope st) s.heap.objs.size f cdv)) → sp vs H Q E →
      ∃ t, PSs (cxOf CX0 P w K mg base N qual (defScope st) f cdv A outer s H E).nox (defBody st) t ∧ t { nx := fun _ H' => Q .non H', rt := Q } (start N vs) H) : FnOk P w K mg base CX0 (k + 1) f fd ps sp := by
  obtain ⟨oc, od, T, o, n, kV, doc, pm, an, cdv, ct, osl, rfl, lk, hcd, _, _⟩ := F.ex
  refine fn_of lk hcd S len fun A outer s H vs Q E hr hsp => ?_
  obtain ⟨t, h, q⟩ := hbody cdv A outer s H vs Q E hr hsp
  exact ⟨t, h.nox, q⟩
/-- n values are written, the defaults behind the first j fill up -/
theorem FunV.binds (F : FunV K x qual st dv f fd) (n j : Nat) (hn : n + (dv.length - j) = ps.length)
    (h : ∀ (T : Addr) (kV doc pm : Value) (an : Option Addr) (cdv ct : Value) (us : List Value), us.length = n →
      ∃ k, bindArgs (PySem.W.fnOf x qual (defArgs st) (defBody st) (defScope st) (.ref T) kV doc pm an cdv ct) ⟨us, []⟩ = seqItems? (.ref T) >>= k ∧ k (some dv.toArray) = pure (ps.zip (us ++ dv.drop j))) : Binds K fd ps (dv.drop j) := by
  obtain ⟨oc, od, T, o, m, kV, doc, pm, an, cdv, ct, osl, rfl, lk, hcd, lT, oT⟩ := F.ex
  refine fun s us X hlen => ?_
  have l2 : us.length = n := by
    rw [List.length_append, List.length_drop] at hlen
    omega
  obtain ⟨k, e1, e2⟩ := h T kV doc pm an cdv ct us l2
  refine BindsTo.of_looks fun M => ?_
  rw [e1]
  exact looks_items X lT oT (.of_pure e2)
theorem FunV.kb {g : List Value → List Value → List Value} {gV : List V → List V → List V} (F : FunV K x qual st dv f fd)
    (h : ∀ (T : Addr) (kV doc pm : Value) (an : Option Addr) (cdv ct : Value) (us ws : List Value), (g us ws).length = ps.length → ∃ k, bindArgs (PySem.W.fnOf x qual (defArgs st) (defBody st) (defScope st) (.ref T) kV doc pm an cdv ct) ⟨us, ks.zip ws⟩ = seqItems? (.ref T) >>= k ∧ k (some dv.toArray) = pure (ps.zip (g us ws)))
    (r : ∀ {vs : List V} {us : List Value} {zs : List V} {ws : List Value}, Vals vs us → Vals zs ws → Vals (gV vs zs) (g us ws)) : KBinds K fd ps ks g gV := by
  obtain ⟨oc, od, T, o, m, kV, doc, pm, an, cdv, ct, osl, rfl, lk, hcd, lT, oT⟩ := F.ex
  refine ⟨fun s us ws X hl => ?_, r⟩
  obtain ⟨k, e1, e2⟩ := h T kV doc pm an cdv ct us ws hl
  refine BindsTo.of_looks fun M => ?_
  rw [e1]
  exact looks_items X lT oT (.of_pure e2)
end
/-! ### // by what may be negative -/
def CDivZ (_ j : Int) : Prop := j ≠ 0 ∧ j.natAbs.log2 < 9000
instance {i j : Int} : Decidable (CDivZ i j) := inferInstanceAs (Decidable (_ ∧ _))
theorem op_fdivZ {X : Cx} : OpR X (binaryOp .FloorDiv) (rI CDivZ fun i j => .int (Int.fdiv i j)) := opI fun i j _ _ _ _ _ hc q => floordiv_int hc.1 q (.inl (PyProof.noPylong_of_log2 hc.2))
/-! ### x is None -/
def isNonD : D → Bool | .non => true | _ => false
def rIsN : V → V → Hp → VK → Prop := fun x y H Q => y = .non ∧ Q (.bl (decide (x = .non))) H
def rNotN : V → V → Hp → VK → Prop := fun x y H Q => y = .non ∧ Q (.bl (!decide (x = .non))) H
theorem op_isNn {X : Cx} : OpR X (compareOp .Is) rIsN := op_isN
theorem op_notNn {X : Cx} : OpR X (compareOp .IsNot) rNotN := op_notN
section
variable {K : PySem.W.Frag} {B H : Hp} {Q : VK} {v : V} {d : D}
theorem Rep.isNon (r : Rep K B v d) : decide (v = .non) = isNonD d := by
  cases r <;> rfl
theorem h_isN (r : Rep K B v d) (h : Q (.bl (isNonD d)) H) : rIsN v .non H Q := ⟨rfl, by rw [r.isNon]; exact h⟩
theorem h_notN (r : Rep K B v d) (h : Q (.bl (!isNonD d)) H) : rNotN v .non H Q := ⟨rfl, by rw [r.isNon]; exact h⟩
end
/-! ### bool + bool, comparisons of lists, xs[::-1], xs.pop(i) -/
theorem int_add_bb (a b : Bool) : Gives (Builtin.«int.__add__» ⟨[.bool a, .bool b], []⟩) (.int ((if a = true then (1 : Int) else 0) + (if b = true then (1 : Int) else 0))) :=
  .of_wp fun M A E s Q h => by obtain ⟨hp, g, d, tk, os⟩ := s; wp_walk; exact ⟨_, rfl, h⟩
def rAddBB : V → V → Hp → VK → Prop := fun x y H Q => ∃ a b, x = .bl a ∧ y = .bl b ∧ Q (.int (b2z a + b2z b)) H
theorem op_addBB {X : Cx} : OpR X (binaryOp .Add) rAddBB := by
  intro pins s σ H x y v u Q I rx ry h
  obtain ⟨a, b, rfl, rfl, q⟩ := h
  cases rx
  cases ry
  exact binaryOp_gives (op := .Add) (T := "bool") rfl rfl F.fills_bool_add F.slot_bool_add F.entry_int_add (F.args_int_add_2 _ _) (int_add_bb a b) trivial ⟨.int (b2z a + b2z b), H, I.tok _, ⟨_, rfl⟩, q⟩
def rAddIB : V → V → Hp → VK → Prop := fun x y H Q => ∃ i k, x = .int i ∧ y = .bl k ∧ Q (.int (i + b2i k)) H
theorem op_addIB {X : Cx} : OpR X (binaryOp .Add) rAddIB := op_add_ib
section
variable {K : PySem.W.Frag} {B B' H H' : Hp} {σ : L2.St} {Q : VK} {x y v : V} {d e : D} {p q : Addr} {xs ys : List V} {te : TE}
theorem h_addBB {a b : Bool} (h : Q (.int (b2z a + b2z b)) H) : rAddBB (.bl a) (.bl b) H Q := ⟨a, b, rfl, rfl, h⟩
theorem h_addIB {i : Int} {k : Bool} (h : Q (.int (i + b2z k)) H) : rAddIB (.int i) (.bl k) H Q := ⟨i, k, rfl, rfl, by cases k <;> exact h⟩
/-- what may be compared as data -/
def Cmp (K : PySem.W.Frag) (H : Hp) (v : V) (d : D) : Prop := flatD d = true → Dp K H v (pyD d)
theorem Rep.cp (w : Ex B H) (r : Rep K B v d) : Cmp K H v d := r.dp w
theorem SqL.cp {ds : List D} (w : Ex B H) (s : SqL K H p xs) (r : RepL K B xs ds) : Cmp K H (.ref p) (.lst ds) := fun f => .lst s (RepL.dp w r f)
theorem h_eqC (rx : Cmp K H x d) (ry : Cmp K H y e) (o : okEq d e) (h : Q (.bl (eqD d e)) H) : rEqD K x y H Q := ⟨_, _, rx o.1, ry o.2.1, o.2.2.1, o.2.2.2, h⟩
theorem h_neC (rx : Cmp K H x d) (ry : Cmp K H y e) (o : okEq d e) (h : Q (.bl (!eqD d e)) H) : rNeD K x y H Q := ⟨_, _, rx o.1, ry o.2.1, o.2.2.1, o.2.2.2, h⟩
/-- xs[::-1] -/
theorem h_revL (h : te σ H fun x H1 => ∃ a xs, x = .ref a ∧ SqL K H1 a xs ∧ NwL xs.reverse H1 Q) : tRevL K te σ H Q := h
theorem h_revQ (s : SqL K H p xs) (h : NwL xs.reverse H Q) : ∃ a ys, V.ref p = .ref a ∧ SqL K H a ys ∧ NwL ys.reverse H Q := ⟨p, xs, rfl, s, h⟩
theorem RepL.rev0 : ∀ {xs : List V} {ds : List D}, RepL K B xs ds → RepL K B xs.reverse ds.reverse
  | _, _, .nil => .nil
  | _, _, .cons h t => by rw [List.reverse_cons, List.reverse_cons]; exact (RepL.rev0 t).append (.cons h .nil)
theorem RepL.rev {α : Type} [Enc α] {l : List α} (r : RepL K B xs (l.map enc)) : RepL K B xs.reverse (l.reverse.map enc) := by
  rw [List.map_reverse]
  exact RepL.rev0 r
theorem RepL.erase : ∀ {xs : List V} {ds : List D} (k : Nat), RepL K B xs ds → RepL K B (xs.eraseIdx k) (ds.eraseIdx k)
  | _, _, _, .nil => .nil
  | _, _, 0, .cons h t => t
  | _, _, k + 1, .cons h t => .cons h (RepL.erase k t)
theorem map_erase {α : Type} [Enc α] : ∀ (l : List α) (k : Nat), (l.eraseIdx k).map (enc : α → D) = (l.map enc).eraseIdx k
  | [], _ => rfl
  | _ :: _, 0 => rfl
  | x :: xs, k + 1 => congrArg (enc x :: ·) (map_erase xs k)
/-- l.pop(i), i from 0 on -/
def popR {α : Type} (l : List α) (i : Int) : Res (α × List α) := if 0 ≤ i ∧ i < (l.length : Int) ∧ l.length ≤ 1000000 then match l[i.toNat]? with | some x => .ok (x, l.eraseIdx i.toNat) | none => .stuck else .stuck
theorem Post.pop {α β : Type} {l : List α} {i : Int} {k : α × List α → Res β} {P : β → Prop} {R : Err → Prop} (h : Post ((popR l i).bind k) P R) : ∃ x, (0 ≤ i ∧ i < (l.length : Int) ∧ l.length ≤ 1000000) ∧ l[i.toNat]? = some x ∧ Post (k (x, l.eraseIdx i.toNat)) P R := by
  unfold popR at h
  by_cases c : 0 ≤ i ∧ i < (l.length : Int) ∧ l.length ≤ 1000000
  · rw [if_pos c] at h
    cases e : l[i.toNat]? with
    | none => rw [e] at h; exact h.elim
    | some x => rw [e] at h; exact ⟨x, c, rfl, h⟩
  · rw [if_neg c] at h; exact h.elim
theorem h_popL {α : Type} [Enc α] {l : List α} {i : Int} {b : α} (w : Ex B H) (m : Mu K B H p (l.map enc)) (hi : 0 ≤ i ∧ i < (l.length : Int) ∧ l.length ≤ 1000000) (hb : l[i.toNat]? = some b)
    (h : ∀ y H', Stp [p] B H B H' → Mu K B H' p ((l.eraseIdx i.toNat).map enc) → Rep K B y (enc b) → Q y H') : rPopAt (.ref p) [.int i] H Q := by
  obtain ⟨hb0, xs, hp, hr⟩ := id m
  have hl : xs.length = l.length := by rw [hr.length, List.length_map]
  obtain ⟨u, hu, ru⟩ := hr.get (i := i.toNat) (d := enc b) (by rw [List.getElem?_map, hb]; rfl)
  have rl : RepL K B (xs.eraseIdx i.toNat) ((l.eraseIdx i.toNat).map enc) := by
    rw [map_erase]
    exact RepL.erase _ hr
  refine ⟨p, xs, i, i.toNat, u, rfl, rfl, hp, by omega, by omega, ?_, hu, ?_⟩
  · unfold seqIndex?
    rw [hl]
    simp [show ¬ i < 0 from by omega, hi.1, hi.2.1]
  · obtain ⟨s, m'⟩ := Stp.mut w m rl
    exact h _ _ s m' ru
end
theorem pg_tupK {X : Cx} {pos : Pos} {es : List Expr} {k : Nat} {t : TGs} {n : Nat} {K : PySem.W.Frag} (hc : X.calm = true) (hK : X.K = K) (h : PGs X es t)
    (hn : (assignEach es X.env).length = n := by rfl) (hst : (assignEach es X.env).findIdx? (·.1) = none := by rfl) : PG X (.Tuple es k pos) (gTup K n t) := hK ▸ pg_tup hc h hn hst
/-! ### l * k, casts, constants -/
theorem list_mulW (l : Addr) (items : Array Value) (n : Nat) (dd : Option Addr) (sl : Array (Option Value)) (x : Int) (u : Tok) (hc0 : ¬(!Builtin.List.listFitsIndex x) = true) (hc1 : ¬items.size * x.toNat > (2 ^ 63 - 1) / 8) (hc2 : ¬Builtin.List.listTooLong (items.size * x.toNat) = true) :
    Meets (Builtin.«list.__mul__» ⟨[.ref l, .int x u], []⟩) (fun _ R s => s.heap.get? l = some { cls := .type "list", dict := dd, data := .seq items n, slots := sl } ∧ R (.ok (.ret (Value.ref s.heap.objs.size))) { s with heap := s.heap.push { cls := Value.type "list", data := Data.seq (List.foldl (fun x1 x2 => x1 ++ x2) #[] (List.replicate (if items.isEmpty = true then 0 else x.toNat) items)) }, toks := s.toks }) :=
  .of_wp fun prog w A R s h => by
    obtain ⟨hp, g, d, tk, os⟩ := s; obtain ⟨hl, h⟩ := h
    have hsz := PySem.AutoListH.joined_fits hc2
    wp_walk; refine wpAny_ite_false (decide_eq_false (Nat.not_lt.mpr hsz)) ?_; wp_walk; exact ⟨_, rfl, h⟩
theorem int_rmulW (a : Int) (t : Tok) (l : Addr) (items : Array Value) (n : Nat) (dd : Option Addr) (sl : Array (Option Value)) :
    Meets (Builtin.«int.__rmul__» ⟨[.int a t, .ref l], []⟩) (fun _ R s => s.heap.get? l = some { cls := .type "list", dict := dd, data := .seq items n, slots := sl } ∧ R (.ok (.ret Value.notImplemented)) s) :=
  .of_wp fun prog w A R s h => by obtain ⟨hp, g, d, tk, os⟩ := s; obtain ⟨hl, h⟩ := h; wp_walk; exact ⟨_, rfl, h⟩
def rRepQ (K : PySem.W.Frag) : R2 := fun x y H Q => ∃ l k xs, x = .ref l ∧ y = .int k ∧ SqL K H l xs ∧ -(2 ^ 63) ≤ k ∧ k < 2 ^ 63 ∧ xs.length * k.toNat ≤ sizeLine ∧ NwL (List.replicate k.toNat xs).flatten H Q
theorem op_repQ {X : Cx} : OpR X (binaryOp .Mult) (rRepQ X.K) := by
  intro pins s σ H x y v u Q I rx ry h
  obtain ⟨l, k, xs, rfl, rfl, hH, h1, h2, hz, q⟩ := h
  cases rx
  obtain ⟨t, rfl⟩ := ry
  obtain ⟨its, r, p1, z⟩ := I.list hH
  have hl := r.length
  obtain ⟨⟨cls, dd, data, sl⟩, e, hc, n, hd⟩ := p1.isList
  simp only at hc hd
  subst hc hd
  have hlen : its.toArray.size * k.toNat ≤ sizeLine := by rw [List.size_toArray, ← hl]; exact hz
  have hcap : ¬ its.toArray.size * k.toNat > (2 ^ 63 - 1) / 8 := by
    have : (sizeLine : Nat) ≤ (2 ^ 63 - 1) / 8 := by decide
    omega
  have hfit : ¬ (!Builtin.List.listFitsIndex k) = true := by
    rw [fitsIndex_both h1 h2]
    exact Bool.false_ne_true
  have hlong : ¬ Builtin.List.listTooLong (its.toArray.size * k.toNat) = true := by
    rw [notLongL hlen]
    exact Bool.false_ne_true
  have hnew : List.foldl (fun x1 x2 => x1 ++ x2) #[] (List.replicate (if its.toArray.isEmpty = true then 0 else k.toNat) its.toArray) = (List.replicate k.toNat its).flatten.toArray := by
    have f0 : ∀ m : Nat, List.foldl (fun x1 x2 => x1 ++ x2) #[] (List.replicate m its.toArray) = (List.replicate m its).flatten.toArray := fun m => by
      have := foldl_rep its m []
      rw [List.nil_append] at this
      exact this
    rw [f0]
    cases its with
    | nil => simp
    | cons a r' => rw [if_neg (by simp)]
  refine wpAny_binaryOp_repeat_ref (T := "list") (U := "int") (by decide) ⟨_, e, rfl⟩ (fun s' => typeIs_int s' k t) noFill_list_mul F.fills_int_mul F.slot_int_rmul repeat_list F.slot_int_index.lookup
    (call_meets F.slot_int_rmul (typeIs_int s k t) F.entry_int_rmul (F.args_int_rmul_2 _ _) (int_rmulW k t l its.toArray n dd sl)
      ⟨e, rfl, ⟨_, e, rfl⟩, call_meets F.slot_list_mul ⟨_, e, rfl⟩ F.entry_list_mul (F.args_list_mul_2 _ _) (list_mulW l its.toArray n dd sl k t hfit hcap hlong) ⟨e, ?_⟩⟩)
  rw [hnew]
  exact ⟨.ref _, _, I.lnew (t' := s.toks) (r.rep k.toNat) (by rw [PyProof.Rows.lm_len_rep_flat, Nat.mul_comm]; exact hz), rfl, q _ I.fresh⟩
section
variable {K : PySem.W.Frag} {B B' H H' : Hp} {σ : L2.St} {Q : VK} {x y v : V} {d e : D} {p q : Addr} {xs ys : List V} {te : TE}
theorem h_repQ {k : Int} {n : Nat} (s : SqL K H p xs) (hn : xs.length = n) (hz : n * k.toNat ≤ 1000000 ∧ -(2 ^ 62) ≤ k ∧ k < 2 ^ 62) (h : NwL (List.replicate k.toNat xs).flatten H Q) : rRepQ K (.ref p) (.int k) H Q :=
  ⟨p, k, xs, rfl, rfl, s, by omega, by omega, by rw [hn]; exact Nat.le_trans hz.1 (by decide), h⟩
theorem RepL.rep0 {ds : List D} (r : RepL K B xs ds) : ∀ k : Nat, RepL K B (List.replicate k xs).flatten (List.replicate k ds).flatten
  | 0 => .nil
  | k + 1 => by rw [List.replicate_succ, List.replicate_succ, List.flatten_cons, List.flatten_cons]; exact r.append (RepL.rep0 r k)
/-- l * k -/
def timesL {α : Type} (l : List α) (k : Int) : List α := (List.replicate k.toNat l).flatten
theorem RepL.times {α : Type} [Enc α] {l : List α} (r : RepL K B xs (l.map enc)) (k : Int) : RepL K B (List.replicate k.toNat xs).flatten ((timesL l k).map enc) := by
  have e : (timesL l k).map (enc : α → D) = (List.replicate k.toNat (l.map enc)).flatten := by
    unfold timesL
    rw [List.map_flatten, List.map_replicate]
  rw [e]
  exact r.rep0 _
/-- isinstance of a list that is only read, or of our own -/
theorem isiL {t : String} {l : List D} (s : SqL K H p xs) (q : Q (.bl (isA t (.lst l))) H) (ht : t ∈ ["bool", "int", "str", "list", "tuple", "dict"] := by simp) : rIsi K [.ref p, .ty t] H Q := by
  have ty : TyX K H (.ref p) (.type "list") := by
    rcases s with (h | ⟨o, h⟩) | ⟨o, its, n, h, hc, _⟩
    · exact .base (.lst h)
    · exact .base (.frz h)
    · exact .kList h hc
  exact ⟨.ref p, .ty t, _, .type t, isA t (.lst l), rfl, .ty t, ty, kit_ty (kit_tab _ (tyD_in (.lst l) rfl) _ ht), q⟩
end
/-! ### things read as what they are -/
class Dec (α : Type) [Enc α] where
  dec : D → Option α
  ok : ∀ d x, dec d = some x → d = enc x
instance : Dec D := ⟨fun d => some d, fun d x e => Option.some.inj e⟩
instance : Dec Int := ⟨fun d => match d with | .int i => some i | _ => none, fun d x e => by cases d <;> simp at e; rw [e]; rfl⟩
instance : Dec Bool := ⟨fun d => match d with | .bl i => some i | _ => none, fun d x e => by cases d <;> simp at e; rw [e]; rfl⟩
instance : Dec Str := ⟨fun d => match d with | .str i => some i | _ => none, fun d x e => by cases d <;> simp at e; rw [e]; rfl⟩
instance {α : Type} [Enc α] [Dec α] : Dec (Option α) := ⟨fun d => match d with | .non => some none | d => (Dec.dec d).map some, fun d x e => by
  cases d with
  | non => cases Option.some.inj e; rfl
  | _ => all_goals
    obtain ⟨y, e1, e2⟩ := Option.map_eq_some_iff.mp (show Option.map some _ = some x from e)
    rw [← e2]
    show _ = (enc y : D)
    exact Dec.ok _ _ e1⟩
instance {α β : Type} [Enc α] [Enc β] [Dec α] [Dec β] : Dec (Tp2 α β) := ⟨fun d => match d with | .tup [a, b] => (Dec.dec a).bind fun x => (Dec.dec b).bind fun y => some ⟨x, y⟩ | _ => none, fun d x e => by
  split at e
  · obtain ⟨u, e1, e⟩ := Option.bind_eq_some_iff.mp e
    obtain ⟨w, e2, e⟩ := Option.bind_eq_some_iff.mp e
    cases Option.some.inj e
    rw [Dec.ok _ _ e1, Dec.ok _ _ e2]
    rfl
  · cases e⟩
instance {α β γ : Type} [Enc α] [Enc β] [Enc γ] [Dec α] [Dec β] [Dec γ] : Dec (Tp3 α β γ) := ⟨fun d => match d with | .tup [a, b, c] => (Dec.dec a).bind fun x => (Dec.dec b).bind fun y => (Dec.dec c).bind fun z => some ⟨x, y, z⟩ | _ => none, fun d x e => by
  split at e
  · obtain ⟨u, e1, e⟩ := Option.bind_eq_some_iff.mp e
    obtain ⟨w, e2, e⟩ := Option.bind_eq_some_iff.mp e
    obtain ⟨w2, e3, e⟩ := Option.bind_eq_some_iff.mp e
    cases Option.some.inj e
    rw [Dec.ok _ _ e1, Dec.ok _ _ e2, Dec.ok _ _ e3]
    rfl
  · cases e⟩
def decs {α : Type} [Enc α] [Dec α] : List D → Option (List α)
  | [] => some []
  | d :: ds => (Dec.dec d).bind fun x => (decs ds).bind fun xs => some (x :: xs)
theorem decs_ok {α : Type} [Enc α] [Dec α] : ∀ (ds : List D) (l : List α), decs ds = some l → ds = l.map enc
  | [], l, e => by cases Option.some.inj e; rfl
  | d :: ds, l, e => by
    obtain ⟨u, e1, e⟩ := Option.bind_eq_some_iff.mp e
    obtain ⟨w, e2, e⟩ := Option.bind_eq_some_iff.mp e
    cases Option.some.inj e
    rw [Dec.ok _ _ e1, decs_ok _ _ e2]
    rfl
instance {α : Type} [Enc α] [Dec α] : Dec (List α) := ⟨fun d => match d with | .lst ds => decs ds | _ => none, fun d x e => by
  split at e
  · rw [decs_ok _ _ e]; rfl
  · cases e⟩
def asD (α : Type) [Enc α] [Dec α] (d : D) : Res α := match Dec.dec d with | some x => .ok x | none => .stuck
theorem Post.asD {α β : Type} [Enc α] [Dec α] {d : D} {k : α → Res β} {P : β → Prop} {R : Err → Prop} (h : Post ((Y.asD α d).bind k) P R) : ∃ x, d = enc x ∧ Post (k x) P R := by
  unfold Y.asD at h
  cases e : Dec.dec (α := α) d with
  | none => rw [e] at h; exact h.elim
  | some x => rw [e] at h; exact ⟨x, Dec.ok _ _ e, h⟩
/-- what is there -/
def someR {α : Type} (o : Option α) : Res α := match o with | some x => .ok x | none => .stuck
theorem Post.some {α β : Type} {o : Option α} {k : α → Res β} {P : β → Prop} {R : Err → Prop} (h : Post ((someR o).bind k) P R) : ∃ x, o = Option.some x ∧ Post (k x) P R := by
  cases o with
  | none => exact h.elim
  | some x => exact ⟨x, rfl, h⟩
/-- a constant of the module: data that is written out -/
structure CT {α : Type} [Enc α] (K : PySem.W.Frag) (mg : Str → Option Value) (nm : Str) (C : Addr) (x : α) : Prop where
  g : mg nm = Option.some (.ref C)
  rep : ∀ B, Rep K B (.ref C) (enc x)
/-! ### defs that hand a new list back; l.pop() -/
def RetF (K : PySem.W.Frag) (W : List Addr) (B H : Hp) (ds : List D) (Q : VK) : Prop := ∀ p B' H', Stp W B H B' H' → H p = none → Mu K B' H' p ds → Q (.ref p) H'
def RetMF (K : PySem.W.Frag) (q : Addr) (B H : Hp) (ds es : List D) (Q : VK) : Prop := ∀ p B' H', Stp [q] B H B' H' → H p = none → Mu K B' H' p ds → Mu K B' H' q es → Q (.ref p) H'
def popE {α : Type} (l : List α) : Res (α × List α) := match l[l.length - 1]? with | some x => .ok (x, l.dropLast) | none => .stuck
theorem Post.popE {α β : Type} {l : List α} {k : α × List α → Res β} {P : β → Prop} {R : Err → Prop} (h : Post ((Y.popE l).bind k) P R) : ∃ x, l[l.length - 1]? = Option.some x ∧ Post (k (x, l.dropLast)) P R := by
  unfold Y.popE at h
  cases e : l[l.length - 1]? with
  | none => rw [e] at h; exact h.elim
  | some x => rw [e] at h; exact ⟨x, rfl, h⟩
section
variable {K : PySem.W.Frag} {B H : Hp} {Q : VK} {p : Addr} {xs : List V}
theorem RepL.dropLast : ∀ {xs : List V} {ds : List D}, RepL K B xs ds → RepL K B xs.dropLast ds.dropLast
  | _, _, .nil => .nil
  | _, _, .cons _ .nil => .nil
  | _, _, .cons h (.cons h2 t) => .cons h (RepL.dropLast (.cons h2 t))
theorem h_popE {α : Type} [Enc α] {l : List α} {b : α} (w : Ex B H) (m : Mu K B H p (l.map enc)) (hb : l[l.length - 1]? = some b)
    (h : ∀ y H', Stp [p] B H B H' → Mu K B H' p (l.dropLast.map enc) → Rep K B y (enc b) → Q y H') : rPop (.ref p) [] H Q := by
  obtain ⟨hb0, xs, hp, hr⟩ := id m
  have hl : xs.length = l.length := by rw [hr.length, List.length_map]
  obtain ⟨u, hu, ru⟩ := hr.get (i := l.length - 1) (d := enc b) (by rw [List.getElem?_map, hb]; rfl)
  have rl : RepL K B xs.dropLast (l.dropLast.map enc) := by
    rw [List.map_dropLast]
    exact RepL.dropLast hr
  obtain ⟨s, m'⟩ := Stp.mut w m rl
  exact ⟨p, xs, u, rfl, rfl, hp, by rw [hl]; exact hu, h _ _ s m' ru⟩
end
end Y

set_option Elab.async false
set_option linter.all false
set_option maxRecDepth 100000
set_option maxHeartbeats 2000000
namespace Y
open PySem PySem.Spec PyProof.Rows
open L2
open Enc (enc)
/-! # more readings: max of two, insert, enumerate -/
theorem h_fr {t : TS} {D' : Ends} {σ σ' : L2.St} {H : Hp} (e : σ = σ') (h : t D' σ' H) : t D' σ H := by rw [e]; exact h
def maxI (i j : Int) : Int := if j > i then j else i
def rMaxY : List V → Hp → VK → Prop := fun xs H Q => ∃ i j, xs = [.int i, .int j] ∧ Q (.int (if j > i then j else i)) H
theorem cr_max {X : Cx} (hc : X.calm = true) : CallR X (.builtin "max") rMaxY := call_max2 hc
theorem h_max {i j : Int} {H : Hp} {Q : VK} (h : Q (.int (maxI i j)) H) : rMaxY [.int i, .int j] H Q := ⟨i, j, rfl, h⟩
def rInsY : V → List V → Hp → VK → Prop := fun x vs H Q => ∃ (l : Addr) (xs : List V) (i : Int) (y : V), x = .ref l ∧ vs = [.int i, y] ∧ H l = some (.lst xs) ∧ xs.length < sizeLine ∧ 0 ≤ i ∧ i < 2 ^ 63 ∧ Q .non (upd H l (.lst (xs.take i.toNat ++ [y] ++ xs.drop i.toNat)))
theorem mt_insY {X : Cx} : MtR X "list.insert" rInsY := mt_insert
def insL {α : Type} (l : List α) (i : Int) (b : α) : List α := l.take i.toNat ++ [b] ++ l.drop i.toNat
section
variable {K : PySem.W.Frag} {B B' H H' : Hp} {Q : VK} {p : Addr} {y : V} {i : Int}
theorem h_insert {α : Type} [Enc α] {l : List α} {b : α} (w : Ex B H) (m : Mu K B H p (l.map enc)) (ry : Rep K B y (enc b)) (hz : l.length < 1000000 ∧ 0 ≤ i ∧ i < 2 ^ 63) (h : ∀ H', Stp [p] B H B H' → Mu K B H' p ((insL l i b).map enc) → Q .non H') : rInsY (.ref p) [.int i, y] H Q := by
  obtain ⟨hb, xs, hp, hr⟩ := id m
  refine ⟨p, xs, i, y, rfl, rfl, hp, by rw [hr.length, List.length_map]; exact Nat.lt_of_lt_of_le hz.1 (by decide), hz.2.1, hz.2.2, ?_⟩
  have rl : RepL K B (xs.take i.toNat ++ [y] ++ xs.drop i.toNat) ((insL l i b).map enc) := by
    unfold insL
    rw [List.map_append, List.map_append, List.map_take, List.map_drop]
    exact ((hr.take _).append (.cons ry .nil)).append (hr.drop _)
  obtain ⟨s, m'⟩ := Stp.mut w m rl
  exact h _ s m'
end
/-- the things with their places -/
def enumL {α : Type} (l : List α) : List (Tp2 Int α) := l.mapIdx fun i x => ⟨(i : Int), x⟩
def En (K : PySem.W.Frag) (vs : List V) (g : TG) (tb : TS) (D' : Ends) (σ : L2.St) (H : Hp) : Prop := tFor (iEnum K (fun _ H Q => Q vs H)) g tb D' σ H
section
variable {K : PySem.W.Frag} {σ : L2.St} {B H : Hp} {p : Addr} {xs : List V} {tb : TS} {D' : Ends} {g : TG} {α β S : Type} {P : β → Prop} {R : Err → Prop}
theorem h_enumE {ta : TA} (h : ta σ H fun vs H1 => En K vs g tb D' σ H1) : tFor (iEnum K ta) g tb D' σ H := h
theorem h_forEn [Enc α] {l : List α} {s0 : S} {f : Tp2 Int α → S → Res (Fl S β)} {k : S → Res β} (hP : Post ((forR (enumL l) s0 f).bind (afterR k)) P R) (hs : SqL K H p xs) (hr : RepL K B xs (l.map enc))
    (J : S → L2.St → Hp → Prop) (h0 : J s0 σ H) (hl : ∀ s σ' H', J s σ' H' → SqL K H' p xs)
    (hb : ∀ (N : L2.St → Hp → Prop) (T : Fl S β → Prop) (x : Tp2 Int α) u s σ' H', J s σ' H' → Rep K B u (enc x.b) → (∀ s' σ2 H2, J s' σ2 H2 → T (.nx s') → N σ2 H2) → (∀ r, T (.rt r) → P r) → (∀ s' σ2 H2, J s' σ2 H2 → T (.bk s') → D'.nx σ2 H2) → Post (f x s) T R →
      NewT [.int x.a, u] H' fun v H1 => g v σ' H1 fun σ2 H2 => tb { D' with nx := N, ct := N, bk := D'.nx } σ2 H2)
    (hd : ∀ s σ' H', J s σ' H' → Post (k s) P R → D'.nx σ' H') : En K [.ref p] g tb D' σ H := by
  refine ⟨p, xs, rfl, hs, for_it (n := xs.length) walk_enum (fun i σ' H' => ∃ s, J s σ' H' ∧ Post (forR ((enumL l).drop i) s f) (fun a => Post (afterR k a) P R) R) ⟨s0, h0, hP.bind⟩ (fun i σ' H' _ ⟨s, j, _⟩ => hl s σ' H' j) ?_ ?_⟩
  · rintro i v σ' H' H2 hi ⟨s, j, q⟩ ⟨T, y1, y2, rfl, hT, rfl, h1, h2⟩
    cases Option.some.inj h1
    have hll : xs.length = l.length := by rw [hr.length, List.length_map]
    have hil : i < l.length := by omega
    have hx : (enumL l)[i]? = some ⟨(i : Int), l[i]⟩ := by
      unfold enumL
      rw [List.getElem?_mapIdx, List.getElem?_eq_getElem hil]
      rfl
    obtain ⟨u, hu, ru⟩ := hr.get (i := i) (d := enc l[i]) (by rw [List.getElem?_map, List.getElem?_eq_getElem hil]; rfl)
    have h2 : xs[i]? = some y2 := h2
    rw [h2] at hu; cases hu
    exact (hb _ _ ⟨(i : Int), l[i]⟩ y2 s σ' H' j ru (fun s' σ2 H2 j2 t2 => ⟨s', j2, t2⟩) (fun r t2 => (t2 : Post (.ok r) P R).ok) (fun s' σ2 H2 j2 t2 => hd s' σ2 H2 j2 t2) (q.turn hx)).2 T hT
  · rintro σ' H' ⟨s, j, q⟩
    exact hd s σ' H' j (q.forN (by unfold enumL; rw [List.length_mapIdx, hr.length, List.length_map]; exact Nat.le_refl _))
end
end Y

set_option Elab.async false
set_option linter.all false
set_option maxRecDepth 100000
set_option maxHeartbeats 4000000
namespace Y
open PySem PySem.Spec PyProof.Rows
open L2
/-! # a try whose clauses may each have a name -/
/-- a clause: what it names, the slot of its name, its suite's reading -/
structure Cl where
  c : Value
  nm : Option Nat
  ts : Addr → Value → Option Addr → TS
def Cl.ends (k : Cl) (D : Ends) : Ends := match k.nm with
  | none => D
  | some i => ⟨fun σ H => D.nx (σ.set i none) H, D.rt, fun σ H => D.bk (σ.set i none) H, fun σ H => D.ct (σ.set i none) H⟩
def Cl.slots (k : Cl) (σ : L2.St) (a : Addr) : L2.St := match k.nm with | none => σ | some i => σ.set i (some (.ref a))
def wMix (K : PySem.W.Frag) (Wout : WX) (D : Ends) : List Cl → WX
  | [] => Wout
  | k :: r => fun cls d σ H => ∃ b, PySem.W.exmOne K cls k.c = some b ∧ (b = true → ∀ a, H a = none → k.ts a cls d (k.ends D) (k.slots σ a) H) ∧ (b = false → wMix K Wout D r cls d σ H)
abbrev SuOk (X : Cx) (b₀ : Stmt) (su : List Stmt) (ts : Addr → Value → Option Addr → TS) : Prop :=
  ∀ (a : Addr) (oe : Obj) (cls : Value) (d : Option Addr) (pn : List (Addr × Obj)), Zc cls d oe → (∃ vs, oe.data = .fields vs) → PSs (X.suite a ((a, oe) :: pn)) (b₀ :: su) (ts a cls d)
inductive Mix (X : Cx) : List ExceptHandler → List Cl → Prop
  | nil : Mix X [] []
  | plain {x : Str} {c : Value} {ts : Addr → Value → Option Addr → TS} {b₀ : Stmt} {su : List Stmt} {p q : Pos} {hs : List ExceptHandler} {ks : List Cl}
      (hc : Names X x c) (hsu : SuOk X b₀ su ts) (r : Mix X hs ks) : Mix X (.ExceptHandler (some (.Name x p)) none (b₀ :: su) q :: hs) (⟨c, none, ts⟩ :: ks)
  | named {x n : Str} {i : Nat} {c : Value} {ts : Addr → Value → Option Addr → TS} {b₀ : Stmt} {su : List Stmt} {p q : Pos} {hs : List ExceptHandler} {ks : List Cl}
      (hN : X.N.Nodup) (hi : X.N[i]? = some n) (hl : X.env.kindOf n = some .local) (hc : Names X x c) (hsu : SuOk X b₀ su ts) (r : Mix X hs ks) : Mix X (.ExceptHandler (some (.Name x p)) (some n) (b₀ :: su) q :: hs) (⟨c, some i, ts⟩ :: ks)
/-- the exception is in flight here: what was known ahead of it -/
structure Fly (X : Cx) (a : Addr) (B : Heap) (sI s1 : Shared) (pins : List (Addr × Obj)) (σ : L2.St) (H : Hp) (cls : Value) (d : Option Addr) (h : Heap) : Prop where
  J : Inv X pins σ H sI
  nb : ∀ b o, sI.heap.get? b = some o → b ∉ frs X.stack → B.get? b = some o
  up : sI.heap.UpToSlots h
  na : H a = none
  os : s1.os = sI.os
  ag : AllBare s1.gens
  fl : HandSPX.FlyingZ B (X.env :: X.outer) a (Zc cls d) h
section
variable {X : Cx} {a : Addr} {B : Heap} {sI s1 : Shared} {pins : List (Addr × Obj)} {σ : L2.St} {H : Hp} {cls : Value} {d : Option Addr} {h : Heap}
theorem Fly.inv (F : Fly X a B sI s1 pins σ H cls d h) : Inv X pins σ H { s1 with heap := h } := F.J.landed F.nb F.fl.1 F.up F.os F.ag
theorem Fly.apart (F : Fly X a B sI s1 pins σ H cls d h) (hf : X.env.frame = some X.env.locals) (hs : X.stack = X.env :: X.outer) : a ≠ X.env.locals ∧ a ∉ X.fs := by
  obtain ⟨oe, vs, he, hz, hd⟩ := F.fl.there
  have key : ∀ e ∈ X.env :: X.outer, e.frame ≠ some a := fun e me q => by
    obtain ⟨_, o, ho, hn⟩ := F.fl.2.2.1.mem (List.mem_filterMap.mpr ⟨e, me, q⟩)
    rw [he] at ho
    cases ho
    exact hn _ hd
  exact ⟨fun z => key X.env List.mem_cons_self (by rw [hf, z]), fun m => by
    obtain ⟨e, me, q⟩ := List.mem_filterMap.mp m
    exact key e (List.mem_cons_of_mem _ me) q⟩
end
section
variable {X : Cx} {body : List Stmt} {h₀ : ExceptHandler} {hds : List ExceptHandler} {ks : List Cl} {pos : Pos} {tb : WX → TS} {Wout : WX}
/-- none of the clauses is right: it goes on -/
theorem fly_on {a : Addr} {B : Heap} {sI s1 : Shared} {pins : List (Addr × Obj)} {σ : L2.St} {H : Hp} {cls : Value} {d : Option Addr} {h : Heap} {Q : Flow → Shared → Prop} (hs : X.stack = X.env :: X.outer) (hf : X.env.frame = some X.env.locals) (tk : Takes X Wout)
    (F : Fly X a B sI s1 pins σ H cls d h) (w : Wout cls d σ H) : wpAny (model X.prog X.w) X.A (handleBy (.ref a) X.env []) Q X.xe { s1 with heap := h } := by
  apply wpAny_handleBy_nil
  have fl := F.fl
  obtain ⟨_, _, _, oe, vs, T, oT, tsl, he, hz, hd, h1, hr⟩ := fl
  have up1 : wpAny (model X.prog X.w) X.A (setFlight (.ref a) X.env.frame) (fun _ z => wpAny (model X.prog X.w) X.A (throw (.ref a) : Sem Flow) Q X.xe z) X.xe { s1 with heap := h } := by
    rw [hf]
    apply HandSPX.setFlight_upZ F.fl
    intro k hk uk
    apply wpAny_throw
    exact tk _ _ ⟨a, B, sI, pins, σ, H, cls, d, rfl, F.J, F.nb, F.up.trans uk, .inr (.inr (by rw [hs]; exact hk)), F.na, F.os, F.ag, w⟩
  unfold PySem.passOn
  apply wpAny_bind
  apply wpAny_field he hd h1
  rw [if_neg (show ¬ ((Value.ref T == Value.none) = true) from by simp)]
  first
    | exact wpAny_bind (wpAny_pure (wpAny_bind up1))
    | exact wpAny_bind up1
theorem fly_mix {a : Addr} {B : Heap} {sI s1 : Shared} {pins : List (Addr × Obj)} {σ : L2.St} {H : Hp} {cls : Value} {d : Option Addr} {h : Heap} {D : Ends} (hs : X.stack = X.env :: X.outer) (hf : X.env.frame = some X.env.locals) (tk : Takes X Wout) (ok : X.Ok)
    (F : Fly X a B sI s1 pins σ H cls d h) : ∀ {hds : List ExceptHandler} {ks : List Cl}, Mix X hds ks → wMix X.K Wout D ks cls d σ H → wpAny (model X.prog X.w) X.A (handleBy (.ref a) X.env hds) (SP X pins D) X.xe { s1 with heap := h } := by
  intro hds ks M
  obtain ⟨oe, vs, he, hz, hd⟩ := F.fl.there
  obtain ⟨nL, nF⟩ := F.apart hf hs
  have S := F.inv.suite he hd F.na nL nF
  have LT : PySem.W.Looks (model X.prog X.w) h (typeOf (.ref a)) cls := fun A Q E s k q => wpAny_typeOf_ref (k _ _ he) (by rw [hz.1]; exact q)
  have named : ∀ {x : Str} {c : Value} {np : Pos}, Names X x c → ∀ {Q E : Value → Shared → Prop}, Q c { s1 with heap := h } → wpAny (model X.prog X.w) (X.A.mark (some (.ref a))) (eval (.Name x np) X.env) Q E { s1 with heap := h } := by
    intro x c np hc Q E q
    rcases hc with ⟨g, db, g2 | ⟨g2, g3, g4⟩⟩
    · exact ld_glob (X := X.suite a ((a, oe) :: (X.pn ++ pins))) S g g2 q db
    · exact ld_blt (X := X.suite a ((a, oe) :: (X.pn ++ pins))) S g g2 g3 q g4 db
  induction M with
  | nil => exact fun w => fly_on hs hf tk F w
  | @plain x c ts b₀ su p q hs' ks' hc hsu r ih =>
    rintro ⟨b, hb, yes, no⟩
    apply wpAny_handleBy_cons (codeAny_handlers_test ?_) (by intro z; cases z)
    apply named hc
    apply (PySem.W.exm_one (M := model X.prog X.w) F.inv.kIn LT hb).here
    cases b
    · exact ih (no rfl)
    · apply codeAny_handlers_suite
      apply HandSPX.lands_againZ F.fl
      intro k fk uk
      have F' : Fly X a B sI s1 pins σ H cls d k := ⟨F.J, F.nb, F.up.trans uk, F.na, F.os, F.ag, fk⟩
      obtain ⟨oe', vs', he', hz', hd'⟩ := fk.there
      have S' := F'.inv.suite he' hd' F.na nL nF
      apply wpAny_mono ((hsu a oe' cls d (X.pn ++ pins) hz' ⟨_, hd'⟩).run [] _ _ H _ S' (yes rfl a F.na)) ?_ (fun _ _ z => z.elim)
      intro f t ht
      cases f <;> obtain ⟨σ6, ht⟩ := ht
      case ret => obtain ⟨σ7, H7, S7, r7, q7⟩ := ht; exact ⟨_, _, _, S7.unsuite ok, r7, q7⟩
      all_goals (obtain ⟨H6, S6, q6⟩ := ht; exact ⟨_, _, S6.unsuite ok, q6⟩)
  | @named x n i c ts b₀ su p q hs' ks' hN hi hl hc hsu r ih =>
    rintro ⟨b, hb, yes, no⟩
    apply wpAny_handleBy_cons (codeAny_handlers_test ?_) (by intro z; cases z)
    apply named hc
    apply (PySem.W.exm_one (M := model X.prog X.w) F.inv.kIn LT hb).here
    cases b
    · exact ih (no rfl)
    · apply codeAny_handlers_suite_as
      apply HandSPX.lands_againZ F.fl
      intro k fk uk
      have F' : Fly X a B sI s1 pins σ H cls d k := ⟨F.J, F.nb, F.up.trans uk, F.na, F.os, F.ag, fk⟩
      obtain ⟨oe', vs', he', hz', hd'⟩ := fk.there
      have S' := F'.inv.suite he' hd' F.na nL nF
      have hx : Loc X.env.scope n := .inl hl
      refine store_ok (X := X.suite a ((a, oe') :: (X.pn ++ pins))) (v := .ref a) S' hN hi hx rfl (fun t2 T2 => ?_) (.inr hl)
      apply wpAny_mono ((hsu a oe' cls d (X.pn ++ pins) hz' ⟨_, hd'⟩).run [] t2 _ H _ T2 (yes rfl a F.na)) ?_ (fun _ _ z => z.elim)
      intro f t ht
      have leave : ∀ {σ6 : L2.St} {H6 : Hp} {Q : Shared → Prop}, Inv (X.suite a ((a, oe') :: (X.pn ++ pins))) [] σ6 H6 t → (∀ t7, Inv X pins (σ6.set i none) H6 t7 → Q t7) →
          wpAny (model X.prog X.w) X.A (do bindName X.env n .none; unbindBehindTheSuite X.env n q) (fun _ t7 => Q t7) X.xe t := fun S6 hq => gone_ok (S6.unsuite ok) hN hi hl hq
      cases f <;> obtain ⟨σ6, ht⟩ := ht
      case ret => obtain ⟨σ7, H7, S7, r7, q7⟩ := ht; exact leave S7 fun t7 J7 => ⟨_, _, _, J7, r7, q7⟩
      all_goals (obtain ⟨H6, S6, q6⟩ := ht; exact leave S6 fun t7 J7 => ⟨_, _, J7, q6⟩)
def tTryM (K : PySem.W.Frag) (ks : List Cl) (Wout : WX) (tb : WX → TS) : TS := fun D σ H => tb (wMix K Wout D ks) D σ H
theorem ps_tryM {K : PySem.W.Frag} (hs : X.stack = X.env :: X.outer) (hf : X.env.frame = some X.env.locals) (tk : Takes X Wout)
    (hb : ∀ (W : WX) (pn : List (Addr × Obj)) (xe : Value → Shared → Prop), Takes (X.tr pn xe) W → PassesOwn (model X.prog X.w) X.A X.env xe → PSs (X.tr pn xe) body (tb W))
    (M : Mix X (h₀ :: hds) ks) (hK : X.K = K := by rfl) : PS X (.Try body (h₀ :: hds) [] [] pos) (tTryM K ks Wout tb) := by
  subst hK
  refine ⟨fun pins s σ H D I h => ?_⟩
  have ok := I.ok
  have hfr : X.A.frames = some (X.env :: X.outer) := by rw [ok.frames, hs]
  apply wpAny_Try_except
  refine wpAny_mono ((hb (wMix X.K Wout D ks) (X.pn ++ pins) _ ?_ PassesOwn.looking).run [] s σ H D (I.toTry _) h) ?_ (fun e t he => he)
  · intro u t xx
    obtain ⟨a, B, sI, pins', σ', H', cls, d, rfl, J', nb, up, sky, na, os, ag, w⟩ := xx
    rw [show (X.tr (X.pn ++ pins) _).stack = X.env :: X.outer from hs] at sky
    refine Sky.land Zc.steady hfr hf sky fun k fk uk => ?_
    exact fly_mix hs hf tk ok (D := D) ⟨J'.ofTry ok, nb, up.trans uk, na, os, ag, fk⟩ M w
  · intro f t ht
    cases f
    case ret => obtain ⟨v, σ', H', J', r, q⟩ := ht; exact ⟨v, σ', H', J'.ofTry ok, r, q⟩
    case next => obtain ⟨σ', H', J', q⟩ := ht; exact wpAny_execs_nil ⟨σ', H', J'.ofTry ok, q⟩
    all_goals (obtain ⟨σ', H', J', q⟩ := ht; exact ⟨σ', H', J'.ofTry ok, q⟩)
end

/-! ## isinstance of the exception, several classes -/
def rIsET (K : PySem.W.Frag) (D a : Addr) : List V → Hp → VK → Prop := fun xs H Q => ∃ (tp : Addr) (cs : List V) (us : List Value) (b : Bool), xs = [.ref a, .ref tp] ∧ H tp = some (.tup cs) ∧ Paired ClsV cs us ∧ PySem.W.kitAny K (.ref D) us = some b ∧ Q (.bl b) H
theorem call_isET {X : Cx} {a D : Addr} {oe : Obj} {pn : List (Addr × Obj)} (C : ExcC X.K D) (hz : Zc (.ref D) none oe) (hf : ∃ vs, oe.data = .fields vs) : CallR (X.suite a ((a, oe) :: pn)) (.builtin "isinstance") (rIsET X.K D a) := by
  rintro pins s σ H _ us Q I r ⟨tp, cs, ws, b, rfl, hT, k, e, q⟩
  obtain ⟨u1, u2, rfl, r1, r2⟩ := r.two
  cases (show u1 = Value.ref a from r1)
  cases (show u2 = Value.ref tp from r2)
  have hget := (I.pin (a, oe) (List.mem_append.mpr (.inl List.mem_cons_self))).1
  obtain ⟨vs, hv⟩ := hf
  obtain ⟨h1, h2⟩ := hz
  obtain ⟨c0, d0, dt0, sl0⟩ := oe
  dsimp only at h1 h2 hv
  subst h1 h2 hv
  have J : PySem.W.InstAt s.heap a ⟨.ref D, none, .fields vs, sl0⟩ D none := ⟨hget, rfl, rfl, trivial⟩
  obtain ⟨_, its, rv, o, g1, g2, n, g3⟩ := (show ObjOk X.prog X.w H s.heap tp (.tup cs) from I.hok tp _ hT)
  have e3 := ClsV.all k rv
  subst e3
  obtain ⟨oc, od, dt, sl⟩ := o
  dsimp only at g2 g3
  subst g2 g3
  exact PySem.W.kia_tup (PySem.W.handS_kitx_exc C.hg C.hk C.hs C.hd C.ha C.hn C.ht C.hm) I.kIn J g1 e (fun z => nomatch z) fun tk => ⟨.bl b, H, I.kept (t' := tk) fun _ _ z => z, rfl, q⟩
def tIsET (K : PySem.W.Frag) (a : Addr) (cls : Value) (d : Option Addr) (targs : TA) : TE := fun σ H Q => ∃ Dc, cls = .ref Dc ∧ d = none ∧ ExcC K Dc ∧ tCB (rIsET K Dc a) targs σ H Q
section
variable {K : PySem.W.Frag} {σ : L2.St} {B H : Hp} {Q : VK} {D' : Ends} {Wout : WX} {k : Cl} {r : List Cl} {mg : Str → Option Value} {nm : Str}
theorem pe_isET {X : Cx} {e : Expr} {a : Addr} {cls : Value} {d : Option Addr} {targs : TA} (hK : X.K = K) (h : ∀ Dc, cls = .ref Dc → d = none → ExcC K Dc → PE X e (tCB (rIsET K Dc a) targs)) : PE X e (tIsET K a cls d targs) :=
  ⟨fun pins s σ H Q I q => by
    obtain ⟨Dc, e1, e2, ec, q⟩ := q
    exact (h Dc e1 e2 ec).run pins s σ H Q I q⟩
theorem h_isET {a C : Addr} {targs : TA} (T : ExcT K mg nm C) (h : targs σ H fun vs H1 => rIsET K C a vs H1 Q) : tIsET K a (.ref C) none targs σ H Q := ⟨C, rfl, rfl, T.ec, h⟩
theorem kitA_nil {t : Value} : PySem.W.kitAny K t [] = some false := rfl
theorem kitA_f {t c : Value} {r : List Value} {b : Bool} (h : PySem.W.kitOne K t c = some false) (hr : PySem.W.kitAny K t r = some b) : PySem.W.kitAny K t (c :: r) = some b := by
  unfold PySem.W.kitAny
  rw [h]
  exact hr
theorem kitA_t {t c : Value} {r : List Value} (h : PySem.W.kitOne K t c = some true) : PySem.W.kitAny K t (c :: r) = some true := by
  unfold PySem.W.kitAny
  rw [h]
/-- a tuple of classes that was just laid -/
theorem h_clsTup {xs : List V} (w : Ex B H) (hn : xs.length ≤ sizeLine) (h : ∀ p, Stp [] B H B (upd H p (.tup xs)) → Q (.ref p) (upd H p (.tup xs))) : NewT xs H Q := ⟨hn, fun p hp => h p (Stp.newM w hp)⟩
theorem h_isETR {a C tp : Addr} {xs : List V} {us : List Value} {b : Bool} (hp : Paired ClsV xs us) (e : PySem.W.kitAny K (.ref C) us = some b) (q : Q (.bl b) (upd H tp (.tup xs))) : rIsET K C a [.ref a, .ref tp] (upd H tp (.tup xs)) Q := ⟨tp, xs, us, b, rfl, upd_same, hp, e, q⟩
/-- the clause meets the error -/
theorem h_mixHitA {C S' : Addr} {i : Nat} {ts : Addr → Value → Option Addr → TS} (T : ExcT K mg nm S') (hs : PySem.W.subIn K (.ref C) (.ref S') = some true)
    (h : ∀ a, H a = none → ts a (.ref C) none ⟨fun σ H => D'.nx (σ.set i none) H, D'.rt, fun σ H => D'.bk (σ.set i none) H, fun σ H => D'.ct (σ.set i none) H⟩ (σ.set i (some (.ref a))) H) : wMix K Wout D' (⟨.ref S', some i, ts⟩ :: r) (.ref C) none σ H :=
  ⟨true, T.exm hs, fun _ a ha => h a ha, fun q => nomatch q⟩
theorem h_mixHitO {C S' : Addr} {ts : Addr → Value → Option Addr → TS} (T : ExcT K mg nm S') (hs : PySem.W.subIn K (.ref C) (.ref S') = some true)
    (h : ∀ a, H a = none → ts a (.ref C) none D' σ H) : wMix K Wout D' (⟨.ref S', none, ts⟩ :: r) (.ref C) none σ H :=
  ⟨true, T.exm hs, fun _ a ha => h a ha, fun q => nomatch q⟩
theorem h_mixSkip {C S' : Addr} (hc : k.c = .ref S') (T : ExcT K mg nm S') (hs : PySem.W.subIn K (.ref C) (.ref S') = some false) (h : wMix K Wout D' r (.ref C) none σ H) : wMix K Wout D' (k :: r) (.ref C) none σ H :=
  ⟨false, by rw [hc]; exact T.exm hs, (fun q => nomatch q), fun _ => h⟩
theorem h_tryM {ks : List Cl} {tb : WX → TS} (h : tb (wMix K Wout D' ks) D' σ H) : tTryM K ks Wout tb D' σ H := h
end

/-! ## a list of lists of our own -/
def Raw (B H : Hp) (p : Addr) (xs : List V) : Prop := B p = none ∧ H p = some (.lst xs)
section
variable {K : PySem.W.Frag} {B B' H H' : Hp} {W : List Addr} {p q : Addr} {xs : List V} {Q : VK} {d e : D} {v u : V}
theorem Raw.step (m : Raw B H p xs) (s : Stp W B H B' H') (h : p ∉ W) : Raw B' H' p xs := ⟨s.nw p _ m.1 m.2, s.fr p _ h m.2⟩
theorem Raw.ne (m : Raw B H p xs) (h : H q = none) : p ≠ q := ne_of_none m.2 h
theorem Raw.kp {r : Addr} (m : Raw B H q xs) (_ : Ex B B') (k : ∀ q, q ≠ r → B q = none → B' q = none) (n : q ≠ r) : Raw B' H q xs := ⟨k q n m.1, m.2⟩
theorem Raw.sq (m : Raw B H p xs) : SqL K H p xs := SqL.of m.2
theorem h_newRaw (w : Ex B H) (hn : xs.length ≤ sizeLine) (h : ∀ p H', H p = none → Stp [] B H B H' → Raw B H' p xs → Q (.ref p) H') : NewL xs H Q := ⟨hn, fun p hp => h p _ hp (Stp.newM w hp) ⟨w.none hp, upd_same⟩⟩
theorem Cmp.pair (s : SqL K H p [v, u]) (h : Cmp K H v d) (h' : Cmp K H u e) : Cmp K H (.ref p) (.lst [d, e]) := fun f => by
  have f' : (flatD d && (flatD e && true)) = true := f
  simp only [Bool.and_true, Bool.and_eq_true] at f'
  exact .lst s (.cons (h f'.1) (.cons (h' f'.2) .nil))
end
end Y

/-! # a local name that holds a def -/
namespace Y
open PySem PySem.Spec PyProof.Rows
open L2
section
variable {X : Cx} {CX : CXT} {k : Nat} {f : Addr} {fd : FuncData} {ps : List Str} {sp : Sp} {dvs : List V} {ds : List Value} {E : L2.St → XK} {x : Str} {p pos : Pos} {e : Expr} {es : List Expr} {t tl : TA}
def tCallLS (i : Nat) (f : Addr) (sp : Sp) (dvs : List V) (E : L2.St → XK) (t : TA) : TE := fun σ H Q => σ[i]? = some (some (.ref f)) ∧ t σ H fun vs H1 => sp (vs ++ dvs) H1 Q (E σ)
theorem atOf {E : XK} (h : Passes CX X E) : ∀ σ, PassesAt CX X σ ((fun _ : L2.St => E) σ) := fun σ pins H s e s' I c => h pins σ H s e s' I c
theorem pe_callLS (i : Nat) (F : FnOk X.prog X.w X.K X.mg X.base CX k f fd ps sp) (hr : Room k X.A) (hk : PySem.W.keepIn X.K (.ref f) = true) (hb : L2.Binds X.K fd ps ds) (hd : Vals dvs ds) (hx : ∀ σ, PassesAt CX X σ (E σ)) (ha : PA X (e :: es) t)
    (hN : X.N[i]? = some x := by rfl) (hv : Vis X.env.scope x := by first | exact Or.inl rfl | exact Or.inr (Or.inl rfl) | exact Or.inr (Or.inr rfl))
    (hdb : (x == ("__debug__" : Str)) = false := by decide) (hcd : (x == ("__classdict__" : Str)) = false := by decide)
    (he : starEach (e :: es) X.env = (false, eval e X.env) :: starEach es X.env := by rfl) (hpl : (backTo pos (starEach es X.env)).any (·.1) = false := by rfl) : PE X (.Call (.Name x p) (e :: es) [] pos) (tCallLS i f sp dvs E t) := by
  refine ⟨fun pins s σ H Q I h => ?_⟩
  obtain ⟨hs, ht⟩ := h
  refine wpAny_Call_Name_kw (thn ((pe_var (pos := p) hN hv hdb hcd).run pins s σ H (fun v H1 => v = .ref f ∧ H1 = H) I ⟨.ref f, hs, rfl, rfl⟩) fun u s1 ⟨v, H1, I1, r1, q1⟩ => ?_)
  obtain ⟨rfl, rfl⟩ := q1
  cases r1
  refine PySem.W.callWith_K (h₀ := X.base) I.ok.mod.kin hk (thn (ha.run pos pins s1 σ _ _ I1 ht) fun us s2 ⟨vs, H2, I2, r, q⟩ => ⟨I2.kIn, ?_⟩) he hpl
  exact run_fnSD F hr hb hd (hx σ) I2 r q
theorem h_callLS {i : Nat} {σ : L2.St} {H : Hp} {Q : VK} (hs : σ[i]? = some (some (.ref f))) (h : tl σ H fun vs H1 => sp (vs ++ dvs) H1 Q (E σ)) : tCallLS i f sp dvs E tl σ H Q := ⟨hs, h⟩
end
end Y

set_option Elab.async false
set_option linter.all false
set_option maxRecDepth 100000
set_option maxHeartbeats 4000000
namespace Y
open PySem PySem.Spec PyProof.Rows
open L2
/-! # instances of the text's classes that stay as they are -/
/-- a class of the text, a name of the module -/
structure KI (K : PySem.W.Frag) (mg : Str → Option Value) (nm : Str) (C : Addr) : Prop extends KC K nm C where
  g : mg nm = some (.ref C)
  ty : PySem.W.typeIn K (.ref C) = some (.type "type")
  is : PySem.W.isClsIn K C = true
  self : PySem.W.subIn K (.ref C) (.ref C) = some true
theorem bt_of {K : PySem.W.Frag} {C : Addr} (a : PySem.W.subIn K (.ref C) (.type "bool") = some false) (b : PySem.W.subIn K (.ref C) (.type "int") = some false) (c : PySem.W.subIn K (.ref C) (.type "str") = some false)
    (d : PySem.W.subIn K (.ref C) (.type "list") = some false) (e : PySem.W.subIn K (.ref C) (.type "tuple") = some false) (f : PySem.W.subIn K (.ref C) (.type "dict") = some false) :
    ∀ t ∈ ["bool", "int", "str", "list", "tuple", "dict"], PySem.W.subIn K (.ref C) (.type t) = some false := by
  intro t ht
  simp only [List.mem_cons, List.not_mem_nil, or_false] at ht
  rcases ht with rfl | rfl | rfl | rfl | rfl | rfl
  · exact a
  · exact b
  · exact c
  · exact d
  · exact e
  · exact f
section
variable {K : PySem.W.Frag} {mg : Str → Option Value} {nm nm' f m : Str} {C C' C2 p dx : Addr} {B H B' H' : Hp} {fs : List (Str × V)} {ds : List (Str × D)} {d : D} {v : V} {Q : VK} {b : Bool} {σ : L2.St} {ta : TE} {tab : List (Str × Bool)}
theorem KC.uniq (k : KC K nm C) (k' : KC K nm C') : C = C' := by
  have := k.a.symm.trans k'.a
  cases this
  rfl
theorem KI.kit (T : KI K mg nm C) (h : PySem.W.subIn K (.ref C2) (.ref C) = some b) : PySem.W.kitOne K (.ref C2) (.ref C) = some b := by
  unfold PySem.W.kitOne
  by_cases e : (Value.ref C2 == Value.ref C) = true
  · rw [if_pos e]
    have e2 : C2 = C := Value.ref.inj (beq_iff_eq.mp e)
    subst e2
    exact T.self.symm.trans h
  · rw [if_neg e]
    have h2 : (PySem.W.clsIn K C).isSome = true := T.is
    show (if ((PySem.W.clsIn K C).isSome && PySem.W.typeIn K (.ref C) == some (.type "type")) = true then PySem.W.subIn K (.ref C2) (.ref C) else none) = some b
    rw [if_pos (by rw [h2, T.ty] <;> rfl)]
    exact h
theorem sub_bt (C : Addr) : ∀ s ∈ ["NoneType", "bool", "int", "str", "list", "tuple", "dict"], PySem.W.subIn K (.type s) (.ref C) = some false := by
  intro s hs
  simp only [List.mem_cons, List.not_mem_nil, or_false] at hs
  rcases hs with rfl | rfl | rfl | rfl | rfl | rfl | rfl <;> rfl
theorem KI.kitB (T : KI K mg nm C) {s : String} (hs : s ∈ ["NoneType", "bool", "int", "str", "list", "tuple", "dict"]) : PySem.W.kitOne K (.type s) (.ref C) = some false := by
  unfold PySem.W.kitOne
  rw [if_neg (by simp)]
  have h2 : (PySem.W.clsIn K C).isSome = true := T.is
  show (if ((PySem.W.clsIn K C).isSome && PySem.W.typeIn K (.ref C) == some (.type "type")) = true then PySem.W.subIn K (.type s) (.ref C) else none) = some false
  rw [if_pos (by rw [h2, T.ty] <;> rfl)]
  exact sub_bt C s hs
/-- isinstance(x, an own class): the classes that are known, and whether each is under it -/
def isCR (tab : List (Str × Bool)) (d : D) : Res Bool := match d with
  | .obj nm _ => (match tab.lookup nm with | some b => .ok b | none => .stuck)
  | _ => .ok false
theorem Post.isC {β : Type} {k : Bool → Res β} {P : β → Prop} {R : Err → Prop} (h : Post ((isCR tab d).bind k) P R) : ∃ b, isCR tab d = .ok b ∧ Post (k b) P R := by
  cases e : isCR tab d with
  | ok b => rw [e] at h; exact ⟨b, rfl, h⟩
  | err x =>
    cases d with
    | obj nm ds =>
      have e' : (match tab.lookup nm with | Option.some b => Res.ok b | Option.none => .stuck) = Res.err x := e
      cases q : tab.lookup nm <;> rw [q] at e' <;> exact nomatch e'
    | _ => exact nomatch e
  | stuck => rw [e] at h; exact h.elim
def TabOk (K : PySem.W.Frag) (C : Addr) : List (Str × Bool) → Prop
  | [] => True
  | (nm, b) :: r => (∃ C2, KC K nm C2 ∧ PySem.W.subIn K (.ref C2) (.ref C) = some b) ∧ TabOk K C r
theorem TabOk.get : ∀ {tab : List (Str × Bool)}, TabOk K C tab → tab.lookup nm = some b → ∃ C2, KC K nm C2 ∧ PySem.W.subIn K (.ref C2) (.ref C) = some b
  | [], _, e => nomatch e
  | (x, y) :: r, h, e => by
    have e' : (match nm == x with | true => some y | false => r.lookup nm) = some b := e
    by_cases q : (nm == x) = true
    · rw [q] at e'
      cases e'
      rw [beq_iff_eq.mp q]
      exact h.1
    · rw [Bool.eq_false_iff.mpr q] at e'
      exact TabOk.get h.2 e'
theorem h_isK (w : Ex B H) (r : Rep K B v d) (T : KI K mg nm C) (tb : TabOk K C tab) (e : isCR tab d = .ok b) (q : Q (.bl b) H) : rIsi K [v, .ref C] H Q := by
  by_cases hd : isObjD d = true
  · cases r with
    | @obj p C' dx nm' fs ds h k r =>
      have e' : (match tab.lookup nm' with | some b => Res.ok b | none => .stuck) = Res.ok b := e
      cases l : tab.lookup nm' with
      | none => rw [l] at e'; exact nomatch e'
      | some y =>
        rw [l] at e'
        cases e'
        obtain ⟨C2, k2, hs⟩ := tb.get l
        rw [k2.uniq k] at hs
        exact ⟨_, .ref C, .ref C', .ref C, b, rfl, .own C, k.tyx (w _ _ h), T.kit hs, q⟩
    | _ => exact nomatch hd
  · have hd := Bool.eq_false_iff.mpr hd
    have eb : b = false := by
      cases d with
      | obj nm ds => exact nomatch hd
      | _ => cases e; rfl
    subst eb
    exact ⟨v, .ref C, _, .ref C, false, rfl, .own C, r.ty w hd, T.kitB (tyD_in d hd), q⟩
theorem RepF.get : ∀ {fs : List (Str × V)} {ds : List (Str × D)}, RepF K B fs ds → ds.lookup f = some d → ∃ v, fs.lookup f = some v ∧ Rep K B v d
  | _, _, .nil, e => nomatch e
  | _, _, @RepF.cons _ _ k v d' vs ds h t, e => by
    have e' : (match f == k with | true => some d' | false => ds.lookup f) = some d := e
    show ∃ u, (match f == k with | true => some v | false => vs.lookup f) = some u ∧ _
    cases q : f == k with
    | true =>
      rw [q] at e'
      cases e'
      exact ⟨v, rfl, h⟩
    | false =>
      rw [q] at e'
      exact RepF.get t e'
theorem RepF.none : ∀ {fs : List (Str × V)} {ds : List (Str × D)}, RepF K B fs ds → ds.lookup f = Option.none → fs.lookup f = Option.none
  | _, _, .nil, _ => rfl
  | _, _, @RepF.cons _ _ k v d' vs ds h t, e => by
    have e' : (match f == k with | true => some d' | false => ds.lookup f) = Option.none := e
    show (match f == k with | true => some v | false => vs.lookup f) = Option.none
    cases q : f == k with
    | true => rw [q] at e'; exact nomatch e'
    | false =>
      rw [q] at e'
      exact RepF.none t e'
theorem Rep.ins (w : Ex B H) (r : Rep K B v (.obj nm ds)) (T : KC K nm C) : ∃ p dx fs, v = .ref p ∧ H p = some (.ins C dx fs) ∧ RepF K B fs ds := by
  cases r with
  | @obj p C' dx _ fs _ h k r =>
    have e := T.uniq k
    subst e
    exact ⟨p, dx, fs, rfl, w _ _ h, r⟩
/-! ### a field -/
def Fld (K : PySem.W.Frag) (f : Str) (x : V) (H : Hp) (Q : VK) : Prop := ∃ a C dx fs v, x = .ref a ∧ H a = some (.ins C dx fs) ∧ Cls K C ∧ NoAttr K C f ∧ fs.lookup f = some v ∧ Q v H
theorem h_fldE (h : ta σ H fun x H1 => Fld K f x H1 Q) : tFld K ta f σ H Q := h
theorem h_fld (w : Ex B H) (r : Rep K B v (.obj nm ds)) (T : KC K nm C) (n : NoAttr K C f) (e : ds.lookup f = some d) (h : ∀ u, Rep K B u d → Q u H) : Fld K f v H Q := by
  obtain ⟨p, dx, fs, rfl, hp, rf⟩ := r.ins w T
  obtain ⟨u, hu, ru⟩ := rf.get e
  exact ⟨p, C, dx, fs, u, rfl, hp, T.c, n, hu, h u ru⟩
/-! ### C(..) -/
/-- an __init__ that lays these fields, in this order -/
def LaysOk (K : PySem.W.Frag) (C : Addr) : List Str → Prop
  | [] => True
  | f :: r => NoAttr K C f ∧ LaysOk K C r
def spInit (K : PySem.W.Frag) (ns : List Str) : Sp := fun vs H Q _ => ∃ (C p dx : Addr) (us : List V), vs = .ref p :: us ∧ us.length = ns.length ∧ H p = some (.ins C dx []) ∧ Cls K C ∧ LaysOk K C ns ∧ Q .non (upd H p (.ins C dx (ns.zip us)))
theorem h_made (w : Ex B H) (hp : H p = none) (hx : H dx = none) (ne : dx ≠ p) (T : KC K nm C) (r : RepF K B fs ds) (h : ∀ B' H', Stp [] B H B' H' → Rep K B' (.ref p) (.obj nm ds) → Q (.ref p) H') : Q (.ref p) (upd (upd (upd H dx (.own p)) p (.ins C dx [])) p (.ins C dx fs)) := by
  rw [upd_upd]
  have s1 : Stp [] B H (upd B dx (.own p)) (upd H dx (.own p)) := Stp.new w hx
  have hp' : (upd H dx (.own p)) p = none := by rw [upd_ne ne.symm]; exact hp
  have s2 : Stp [] (upd B dx (.own p)) (upd H dx (.own p)) (upd (upd B dx (.own p)) p (.ins C dx fs)) (upd (upd H dx (.own p)) p (.ins C dx fs)) := Stp.new s1.ok hp'
  exact h _ _ (s1.trans s2) (.obj upd_same T (r.mono (s1.trans s2).ex))
theorem h_make {ns : List Str} {E : XK} {us : List V} (hl : us.length = ns.length) (w : Ex B H) (T : KC K nm C) (lo : LaysOk K C ns) (r : RepF K B (ns.zip us) ds) (h : ∀ p B' H', Stp [] B H B' H' → Rep K B' (.ref p) (.obj nm ds) → Q (.ref p) H') :
    ∀ x dx, H x = none → H dx = none → dx ≠ x → spInit K ns (.ref x :: us) (upd (upd H dx (.own x)) x (.ins C dx [])) (fun v H2 => v = .non ∧ Q (.ref x) H2) E := fun x dx hx hdx ne =>
  ⟨C, x, dx, us, rfl, hl, upd_same, T.c, lo, rfl, h_made w hx hdx ne T r fun B' H' s rr => h x B' H' s rr⟩
end
/-! ### o.m(..) of one of several classes -/
structure MAlt (P : Program) (wo : World) (K : PySem.W.Frag) (mg : Str → Option Value) (base : Heap) (CX : CXT) (k : Nat) (m : Str) (C : Addr) (sp : Sp) : Prop where
  ex : ∃ (f : Addr) (fd : FuncData) (ps : List Str), Cls K C ∧ Meth K C m f ∧ FnOk P wo K mg base CX k f fd ps sp ∧ L2.Binds K fd ps []
def tMethP (A : Addr → Sp → Prop) (m : Str) (E : L2.St → XK) (ta : TE) (t : TA) : TE := fun σ H Q => ta σ H fun x H1 => ∃ a C dx fs sp, x = .ref a ∧ H1 a = some (.ins C dx fs) ∧ A C sp ∧ fs.lookup m = none ∧ t σ H1 fun vs H2 => sp (x :: vs) H2 Q (E σ)
section
variable {X : Cx} {CX : CXT} {k : Nat} {E : L2.St → XK} {m : Str} {pos apos : Pos} {e o : Expr} {es : List Expr} {ta : TE} {t : TA} {A : Addr → Sp → Prop}
theorem pe_methP {pl : Sem Bool} (he : PE X o ta) (hA : ∀ C sp, A C sp → MAlt X.prog X.w X.K X.mg X.base CX k m C sp) (hr : Room k X.A) (hx : ∀ σ, PassesAt CX X σ (E σ)) (ha : PA X (e :: es) t)
    (hst : starEach (e :: es) X.env = (false, eval e X.env) :: starEach es X.env := by rfl) (hpl : (backTo pos (starEach es X.env)).any (·.1) = false := by rfl)
    (ht : eval (.Call (.Attribute o m apos) (e :: es) [] pos) X.env = (do
      let ov ← eval o X.env
      standAt apos.atName
      let (f, first) ← holding [ov] (getMethod ov m pl)
      callWith pos f first (backTo pos (starEach (e :: es) X.env)) (backToKw pos (keywordEach [] X.env))) := by rfl) :
    PE X (.Call (.Attribute o m apos) (e :: es) [] pos) (tMethP A m E ta t) := by
  refine ⟨fun pins s σ H Q I h => ?_⟩
  refine PySem.W.methodCall_KW (pl := pl) (thn (he.run pins s σ H _ I h) fun u s1 ⟨x, H1, I1, rx, a, C, dx, fs, sp, ex, ea, hAC, l, q⟩ => ?_) ht
  subst ex
  obtain rfl : u = Value.ref a := rx
  obtain ⟨f, fd, ps, c, hm, F, hb⟩ := (hA C sp hAC).ex
  refine getmeth_ok I1 ea c hm l ?_
  refine PySem.W.callWith_K (first := [.ref a]) (h₀ := X.base) I.ok.mod.kin hm.kp (thn (ha.run pos pins s1 σ H1 _ I1 q) fun us s2 ⟨vs, H2, I2, r, q2⟩ => ⟨I2.kIn, ?_⟩) hst hpl
  exact run_fnSD (us := .ref a :: us) (vs := .ref a :: vs) (dvs := []) (ds := []) F hr hb .nil (hx σ) I2 (.cons rfl r) (by rw [List.append_nil]; exact q2)
theorem pe_methP0 {pl : Sem Bool} (he : PE X o ta) (hA : ∀ C sp, A C sp → MAlt X.prog X.w X.K X.mg X.base CX k m C sp) (hr : Room k X.A) (hx : ∀ σ, PassesAt CX X σ (E σ))
    (ht : eval (.Call (.Attribute o m apos) [] [] pos) X.env = (do
      let ov ← eval o X.env
      standAt apos.atName
      let (f, first) ← holding [ov] (getMethod ov m pl)
      callWith pos f first (backTo pos (starEach [] X.env)) (backToKw pos (keywordEach [] X.env))) := by rfl) :
    PE X (.Call (.Attribute o m apos) [] [] pos) (tMethP A m E ta tNil) := by
  refine ⟨fun pins s σ H Q I h => ?_⟩
  refine PySem.W.methodCall_KW (pl := pl) (thn (he.run pins s σ H _ I h) fun u s1 ⟨x, H1, I1, rx, a, C, dx, fs, sp, ex, ea, hAC, l, q⟩ => ?_) ht
  subst ex
  obtain rfl : u = Value.ref a := rx
  obtain ⟨f, fd, ps, c, hm, F, hb⟩ := (hA C sp hAC).ex
  refine getmeth_ok I1 ea c hm l ?_
  exact PySem.W.callWith_K0 (first := [.ref a]) I1.kIn hm.kp (run_fnSD (us := [.ref a]) (vs := [.ref a]) (dvs := []) (ds := []) F hr hb .nil (hx σ) I1 (.cons rfl .nil) (by rw [List.append_nil]; exact q))
end
section
variable {K : PySem.W.Frag} {σ : L2.St} {H : Hp} {Q : VK} {A : Addr → Sp → Prop} {m : Str} {E : L2.St → XK} {ta : TE} {t : TA} {C : Addr} {sp : Sp} {dvs : List V} {E0 : XK}
theorem h_methE (h : ta σ H fun x H1 => ∃ a C dx fs sp, x = .ref a ∧ H1 a = some (.ins C dx fs) ∧ A C sp ∧ fs.lookup m = none ∧ t σ H1 fun vs H2 => sp (x :: vs) H2 Q (E σ)) : tMethP A m E ta t σ H Q := h
theorem h_makeE (h : t σ H fun vs H1 => ∀ x dx, H1 x = none → H1 dx = none → dx ≠ x → sp (.ref x :: (vs ++ dvs)) (upd (upd H1 dx (.own x)) x (.ins C dx [])) (fun v H2 => v = .non ∧ Q (.ref x) H2) E0) : tMake C sp dvs E0 t σ H Q := h
theorem lk0 {α : Type} {f : Str} {d : α} {r : List (Str × α)} : List.lookup f ((f, d) :: r) = some d := by
  show (match f == f with | true => some d | false => r.lookup f) = some d
  rw [beq_self_eq_true]
theorem lkS {α : Type} {f g : Str} {d e : α} {r : List (Str × α)} (h : (f == g) = false) (t : List.lookup f r = some d) : List.lookup f ((g, e) :: r) = some d := by
  show (match f == g with | true => some e | false => r.lookup f) = some d
  rw [h]
  exact t
theorem lkN {α : Type} {f g : Str} {e : α} {r : List (Str × α)} (h : (f == g) = false) (t : List.lookup f r = none) : List.lookup f ((g, e) :: r) = none := by
  show (match f == g with | true => some e | false => r.lookup f) = none
  rw [h]
  exact t
theorem lkE {α : Type} {f : Str} : List.lookup f ([] : List (Str × α)) = none := rfl
theorem putS {f g : Str} {v u : V} {r q : List (Str × V)} (h : ¬ g = f) (e : putF f v r = q) : putF f v ((g, u) :: r) = (g, u) :: q := by
  show (if g = f then (g, v) :: r else (g, u) :: putF f v r) = _
  rw [if_neg h, e]
theorem putE {f : Str} {v : V} : putF f v [] = [(f, v)] := rfl
end
/-! ### C(.., k = v) -/
def tMakeB (C : Addr) (sp : Sp) (gV : List V → List V → List V) (E : XK) (t tk : TA) : TE := fun σ H Q => t σ H fun vs H1 => tk σ H1 fun zs H2 =>
  ∀ x dx, H2 x = none → H2 dx = none → dx ≠ x → sp (gV (.ref x :: vs) zs) (upd (upd H2 dx (.own x)) x (.ins C dx [])) (fun v H3 => v = .non ∧ Q (.ref x) H3) E
section
variable {X : Cx} {CX : CXT} {k : Nat} {f C : Addr} {fd : FuncData} {ps ks : List Str} {sp : Sp} {E : XK} {x : Str} {p pos : Pos} {e : Expr} {es : List Expr} {kws : List Keyword} {t tk : TA} {g : List Value → List Value → List Value} {gV : List V → List V → List V}
theorem run_makeB {pins : List (Addr × Obj)} {σ : L2.St} {H : Hp} {s : Shared} {Q : VK} {us ws : List Value} {vs zs : List V} (M : Mk X.K C f) (F : FnOk X.prog X.w X.K X.mg X.base CX k f fd ps sp) (hr : Room (k + 1) X.A) (hb : KBinds X.K fd ps ks g gV)
    (hx : Passes CX X E) (I : Inv X pins σ H s) (r : Vals vs us) (rz : Vals zs ws)
    (h : ∀ x dx, H x = none → H dx = none → dx ≠ x → sp (gV (.ref x :: vs) zs) (upd (upd H dx (.own x)) x (.ins C dx [])) (fun v H2 => v = .non ∧ Q (.ref x) H2) E) :
    wpAny (model X.prog X.w) X.A (call (.ref C) us (ks.zip ws)) (EP X pins σ Q) X.xe s := by
  have hq := h (s.heap.objs.size + 1) s.heap.objs.size (I.hok.fresh (Nat.le_succ _)) (I.hok.fresh (Nat.le_refl _)) (Nat.ne_of_lt (Nat.lt_succ_self _))
  have I2 := Inv.made (C := C) I
  have r1 : Vals (V.ref (s.heap.objs.size + 1) :: vs) (Value.ref (s.heap.objs.size + 1) :: us) := .cons rfl r
  have r2 := hb.rel r1 rz
  have hl : (g (Value.ref (s.heap.objs.size + 1) :: us) ws).length = ps.length := by rw [← r2.length]; exact F.len _ _ _ _ hq
  refine wpAny_call (make_map (f := f) I.kIn M.makes M.init (beq_iff_eq.mp M.fn) (codeAny_mono (F.run _ X.stack _ _ ⟨Value.ref (s.heap.objs.size + 1) :: us, ks.zip ws⟩ (g (Value.ref (s.heap.objs.size + 1) :: us) ws) _ _ E (hr.make C us (ks.zip ws))
    (I2.env0.make C us (ks.zip ws)) (hb.to _ (Value.ref (s.heap.objs.size + 1) :: us) ws I2.kIn hl) r2 hq) fun r s' hq' => ?_))
  cases r with
  | error e => exact hx pins σ _ _ e s' I2 hq'
  | ok fl =>
    cases fl with
    | ret u =>
      obtain ⟨v, H', I3, rv, ev, q3⟩ := I2.after hq'
      subst ev
      exact ⟨rv, ⟨V.ref (s.heap.objs.size + 1), H', I3, rfl, q3⟩⟩
    | next => exact False.elim hq'
    | brk => exact False.elim hq'
    | cont => exact False.elim hq'
theorem pe_makeB (M : Mk X.K C f) (F : FnOk X.prog X.w X.K X.mg X.base CX k f fd ps sp) (hr : Room (k + 1) X.A) (hg : Gl X x) (hm : X.mg x = some (.ref C)) (hb : KBinds X.K fd ps ks g gV) (hx : Passes CX X E)
    (ha : PA X (e :: es) t) (hkw : PK X kws tk) (hall : (backToKw pos (keywordEach kws X.env)).all (·.1.isSome) = true := by rfl) (hks : (backToKw pos (keywordEach kws X.env)).filterMap (·.1) = ks := by rfl)
    (hdb : (x == ("__debug__" : Str)) = false := by decide) (he : starEach (e :: es) X.env = (false, eval e X.env) :: starEach es X.env := by rfl)
    (hpl : ((backTo pos (starEach (e :: es) X.env)).any (·.1) || (backToKw pos (keywordEach kws X.env)).any (·.1.isNone)) = false := by rfl) :
    PE X (.Call (.Name x p) (e :: es) kws pos) (tMakeB C sp gV E t tk) := by
  refine ⟨fun pins s σ H Q I h => ?_⟩
  refine wpAny_Call_Name_kw (ld_glob I hg hm ?_ hdb)
  refine PySem.W.callWith_KW (h₀ := X.base) I.ok.mod.kin M.kp hall (thn (ha.run pos pins s σ H _ I h) fun us s1 ⟨vs, H1, I1, r, q⟩ => ?_) hpl he
  refine thn (hkw.run pos pins s1 σ H1 _ I1 q) fun ws s2 ⟨zs, H2, I2, rz, q2⟩ => ⟨I2.kIn, ?_⟩
  rw [hks]
  exact run_makeB M F hr hb hx I2 r rz q2
theorem pe_makeB0 (M : Mk X.K C f) (F : FnOk X.prog X.w X.K X.mg X.base CX k f fd ps sp) (hr : Room (k + 1) X.A) (hg : Gl X x) (hm : X.mg x = some (.ref C)) (hb : KBinds X.K fd ps ks g gV) (hx : Passes CX X E) (hkw : PK X kws tk)
    (hall : (backToKw pos (keywordEach kws X.env)).all (·.1.isSome) = true := by rfl) (hks : (backToKw pos (keywordEach kws X.env)).filterMap (·.1) = ks := by rfl) (hdb : (x == ("__debug__" : Str)) = false := by decide)
    (hpl : ((backTo pos (starEach [] X.env)).any (·.1) || (backToKw pos (keywordEach kws X.env)).any (·.1.isNone)) = false := by rfl) :
    PE X (.Call (.Name x p) [] kws pos) (tMakeB C sp gV E tNil tk) := by
  refine ⟨fun pins s σ H Q I h => ?_⟩
  refine wpAny_Call_Name_kw (ld_glob I hg hm ?_ hdb)
  refine PySem.W.callWith_KW0 (h₀ := X.base) I.ok.mod.kin M.kp hall ?_ hpl
  refine thn (hkw.run pos pins s σ H _ I h) fun ws s2 ⟨zs, H2, I2, rz, q2⟩ => ⟨I2.kIn, ?_⟩
  rw [hks]
  exact run_makeB (us := []) (vs := []) M F hr hb hx I2 .nil rz q2
theorem h_makeBE {σ : L2.St} {H : Hp} {Q : VK} (h : t σ H fun vs H1 => tk σ H1 fun zs H2 => ∀ x dx, H2 x = none → H2 dx = none → dx ≠ x → sp (gV (.ref x :: vs) zs) (upd (upd H2 dx (.own x)) x (.ins C dx [])) (fun v H3 => v = .non ∧ Q (.ref x) H3) E) : tMakeB C sp gV E t tk σ H Q := h
end
section
variable {K : PySem.W.Frag} {B H : Hp} {σ : L2.St} {Q : VK} {tk tv : TE} {v : V} {d : D} {x : Str}
theorem h_disp1S (hk : ∀ (H' : Hp) (Q : VK), Q (.str x) H' → tk σ H' Q) (hv : ∀ (H' : Hp) (Q : VK), Q v H' → tv σ H' Q) (w : Ex B H) (rv : Rep K B v d)
    (h : ∀ p B' H', Stp [] B H B' H' → Rep K B' (.ref p) (.dic [(.inr x, d)]) → Q (.ref p) H') : tDisp [(tk, tv)] σ H Q := fun p hp => by
  show tk σ (upd H p (.dK [])) _
  refine hk _ _ (hv _ _ ⟨upd_same, [(.inr x, v)], rfl, (by show 1 ≤ 15; decide), ?_⟩)
  rw [L2.upd_upd]
  have hb := w.none hp
  exact h p _ _ (Stp.new w hp) (.dic upd_same (.cons (rv.mono (Ex.new hb)) .nil))
end
/-! ### C.m(..), a def of the class C -/
def tClsF (C : Addr) (sp : Sp) (dvs : List V) (E : XK) (ta : TE) (t : TA) : TE := fun σ H Q => ta σ H fun x H1 => x = .ref C ∧ t σ H1 fun vs H2 => sp (vs ++ dvs) H2 Q E
section
variable {X : Cx} {CX : CXT} {k : Nat} {E : XK} {m : Str} {pos apos : Pos} {e o : Expr} {es : List Expr} {ta : TE} {t : TA} {C g : Addr} {mc : Value} {fd : FuncData} {ps : List Str} {sp : Sp} {dvs : List V} {ds : List Value}
theorem pe_clsf {pl : Sem Bool} (he : PE X o ta) (r : ClX.CRead X.K C mc) (c : ClX.CVal X.K C mc m (.ref g) (.ref g)) (F : FnOk X.prog X.w X.K X.mg X.base CX k g fd ps sp) (hk : PySem.W.keepIn X.K (.ref g) = true) (hr : Room k X.A)
    (hb : L2.Binds X.K fd ps ds) (hd : Vals dvs ds) (hx : Passes CX X E) (ha : PA X (e :: es) t)
    (hst : starEach (e :: es) X.env = (false, eval e X.env) :: starEach es X.env := by rfl) (hpl : (backTo pos (starEach es X.env)).any (·.1) = false := by rfl)
    (ht : eval (.Call (.Attribute o m apos) (e :: es) [] pos) X.env = (do
      let ov ← eval o X.env
      standAt apos.atName
      let (f, first) ← holding [ov] (getMethod ov m pl)
      callWith pos f first (backTo pos (starEach (e :: es) X.env)) (backToKw pos (keywordEach [] X.env))) := by rfl) :
    PE X (.Call (.Attribute o m apos) (e :: es) [] pos) (tClsF C sp dvs E ta t) := by
  refine ⟨fun pins s σ H Q I h => ?_⟩
  refine PySem.W.methodCall_KW (pl := pl) (thn (he.run pins s σ H _ I h) fun u s1 ⟨x, H1, I1, rx, ex, q⟩ => ?_) ht
  subst ex
  obtain rfl : u = Value.ref C := rx
  refine PySem.W.method_cls I1.kIn r.ga (ClX.getcval_ok I1 r c fun s2 I2 => ?_)
  refine PySem.W.callWith_K (first := []) (h₀ := X.base) I2.ok.mod.kin hk (thn (ha.run pos pins s2 σ H1 _ I2 q) fun us s3 ⟨vs, H2, I3, rv, q2⟩ => ⟨I3.kIn, ?_⟩) hst hpl
  exact run_fn F hr hb hd hx I3 rv q2
end
/-! # min of two -/
def minI (i j : Int) : Int := if j < i then j else i
def rMinY : List V → Hp → VK → Prop := fun xs H Q => ∃ i j, xs = [.int i, .int j] ∧ Q (.int (minI i j)) H
theorem cr_minY {X : Cx} (hc : X.calm = true) : CallR X (.builtin "min") rMinY := call_min2 hc
theorem h_min {i j : Int} {H : Hp} {Q : VK} (h : Q (.int (minI i j)) H) : rMinY [.int i, .int j] H Q := ⟨i, j, rfl, h⟩
/-! # a comprehension over a tuple -/
section
variable {K : PySem.W.Frag} {B H : Hp} {σ : L2.St} {Q : VK} {p : Addr} {xs : List V} {g : TG} {tt : TT} {te : TE} {α β S R' : Type} {P : β → Prop} {R : Err → Prop}
def LcU (K : PySem.W.Frag) (v : V) (g : TG) (tt : TT) (te : TE) (vs : List Nat) (σ : L2.St) (H : Hp) (Q : VK) : Prop := tLc (iTup K (tC v)) g tt te vs σ H Q
theorem h_lcUE {vs : List Nat} {tl : TE} (h : tl σ H fun x H1 => LcU K x g tt te vs σ H1 Q) : tLc (iTup K tl) g tt te vs σ H Q := h
theorem h_lcU [Enc α] {l : List α} {s0 : S} {f : α → S → Res (Option R' × S)} {k : List R' × S → Res β} {vs : List Nat} (hP : Post ((compR l s0 f).bind k) P R) (hs : SqT K H p xs) (hr : RepL K B xs (l.map enc))
    (J : Addr → List R' → S → Hp → Prop) (h0 : ∀ Dl, H Dl = none → J Dl [] s0 (upd H Dl (.lst []))) (hl : ∀ Dl acc s H', J Dl acc s H' → SqT K H' p xs)
    (hb : ∀ (Dl : Addr) (N : Hp → Prop) (T : Option R' × S → Prop) (x : α) v acc s H', J Dl acc s H' → Rep K B v (enc x) → acc.length < sizeLine → (∀ b s' H2, J Dl (acc ++ [b]) s' H2 → T (some b, s') → N H2) → (∀ s' H2, J Dl acc s' H2 → T (none, s') → N H2) → Post (f x s) T R →
      g v (wipe σ vs) H' (LcT σ vs tt te Dl N))
    (hd : ∀ Dl acc s H', J Dl acc s H' → Post (k (acc, s)) P R → Q (.ref Dl) H') : LcU K (.ref p) g tt te vs σ H Q := by
  refine ⟨p, rfl, ⟨xs, hs⟩, fun Dl hD => ?_⟩
  unfold compR at hP
  have hz : l.length ≤ 1000000 := by
    by_cases c : l.length ≤ 1000000
    · exact c
    · unfold guardR at hP; rw [if_neg c] at hP; exact hP.elim
  unfold guardR at hP
  rw [if_pos hz] at hP
  refine lc_tup (K := K) (a := p) (xs := xs) (fun i H' => ∃ acc s, J Dl acc s H' ∧ acc.length ≤ i ∧ Post ((compL (l.drop i) s f).bind fun q => k (acc ++ q.1, q.2)) P R) ⟨[], s0, h0 Dl hD, Nat.le_refl _, hP⟩ (fun i H' _ ⟨acc, s, j, _⟩ => hl Dl acc s H' j) ?_ ?_
  · rintro i y H' hi ⟨acc, s, j, hn, q⟩
    have h1 := (List.getElem?_eq_some_iff.mp hi).1
    rw [hr.length, List.length_map] at h1
    obtain ⟨x, hx⟩ : ∃ x, l[i]? = some x := ⟨l[i], List.getElem?_eq_getElem h1⟩
    obtain ⟨u, hu, ru⟩ := hr.get (i := i) (d := enc x) (by rw [List.getElem?_map, hx]; rfl)
    rw [hi] at hu; cases hu
    exact hb Dl _ _ x y acc s H' j ru (Nat.lt_of_le_of_lt (Nat.le_trans hn (Nat.le_trans (Nat.le_of_lt h1) hz)) (by decide)) (fun b s' H2 j2 t2 => ⟨acc ++ [b], s', j2, by rw [List.length_append]; exact Nat.succ_le_succ hn, t2⟩) (fun s' H2 j2 t2 => ⟨acc, s', j2, Nat.le_succ_of_le hn, t2⟩) (q.compS hx)
  · rintro H' ⟨acc, s, j, _, q⟩
    rw [hr.length, List.length_map, List.drop_eq_nil_of_le (Nat.le_refl _)] at q
    have q2 : Post (k (acc ++ [], s)) P R := q
    rw [List.append_nil] at q2
    exact hd Dl acc s H' j q2
end
end Y

set_option Elab.async false
set_option linter.all false
set_option maxRecDepth 100000
set_option maxHeartbeats 4000000
namespace Y
open PySem PySem.Spec PyProof.Rows
open L2
/-! # o.m(k = v) of one of several classes -/
structure MAltK (P : Program) (wo : World) (K : PySem.W.Frag) (mg : Str → Option Value) (base : Heap) (CX : CXT) (k : Nat) (m : Str) (ks : List Str) (gV : List V → List V → List V) (C : Addr) (sp : Sp) : Prop where
  ex : ∃ (f : Addr) (fd : FuncData) (ps : List Str) (g : List Value → List Value → List Value), Cls K C ∧ Meth K C m f ∧ FnOk P wo K mg base CX k f fd ps sp ∧ KBinds K fd ps ks g gV
def tMethK (A : Addr → Sp → Prop) (m : Str) (gV : List V → List V → List V) (E : L2.St → XK) (ta : TE) (tk : TA) : TE := fun σ H Q => ta σ H fun x H1 => ∃ a C dx fs sp, x = .ref a ∧ H1 a = some (.ins C dx fs) ∧ A C sp ∧ fs.lookup m = none ∧ tk σ H1 fun zs H2 => sp (gV [x] zs) H2 Q (E σ)
section
variable {X : Cx} {CX : CXT} {k : Nat} {E : L2.St → XK} {m : Str} {ks : List Str} {pos apos : Pos} {o : Expr} {kws : List Keyword} {ta : TE} {tk : TA} {A : Addr → Sp → Prop} {gV : List V → List V → List V} {f : Addr} {fd : FuncData} {ps : List Str} {sp : Sp} {g : List Value → List Value → List Value}
theorem run_fnkS {pins : List (Addr × Obj)} {σ : L2.St} {H : Hp} {s : Shared} {Q : VK} {us ws : List Value} {vs zs : List V} (F : FnOk X.prog X.w X.K X.mg X.base CX k f fd ps sp) (hr : Room k X.A) (hb : KBinds X.K fd ps ks g gV) (hx : PassesAt CX X σ (E σ))
    (I : Inv X pins σ H s) (r : Vals vs us) (rz : Vals zs ws) (h : sp (gV vs zs) H Q (E σ)) : wpAny (model X.prog X.w) X.A (call (.ref f) us (ks.zip ws)) (EP X pins σ Q) X.xe s := by
  have r2 := hb.rel r rz
  have hl : (g us ws).length = ps.length := by rw [← r2.length]; exact F.len _ _ _ _ h
  refine wpAny_call (codeAny_mono (F.run X.A X.stack s H ⟨us, ks.zip ws⟩ (g us ws) (gV vs zs) Q (E σ) hr I.env0 (hb.to s us ws I.kIn hl) r2 h) fun r s' hq => ?_)
  cases r with
  | error e => exact hx pins H s e s' I hq
  | ok fl =>
    cases fl with
    | ret u => exact I.after hq
    | next => exact False.elim hq
    | brk => exact False.elim hq
    | cont => exact False.elim hq
theorem pe_methK0 {pl : Sem Bool} (he : PE X o ta) (hA : ∀ C sp, A C sp → MAltK X.prog X.w X.K X.mg X.base CX k m ks gV C sp) (hr : Room k X.A) (hx : ∀ σ, PassesAt CX X σ (E σ)) (hkw : PK X kws tk)
    (hall : (backToKw pos (keywordEach kws X.env)).all (·.1.isSome) = true := by rfl) (hks : (backToKw pos (keywordEach kws X.env)).filterMap (·.1) = ks := by rfl)
    (hpl : ((backTo pos (starEach [] X.env)).any (·.1) || (backToKw pos (keywordEach kws X.env)).any (·.1.isNone)) = false := by rfl)
    (ht : eval (.Call (.Attribute o m apos) [] kws pos) X.env = (do
      let ov ← eval o X.env
      standAt apos.atName
      let (f, first) ← holding [ov] (getMethod ov m pl)
      callWith pos f first (backTo pos (starEach [] X.env)) (backToKw pos (keywordEach kws X.env))) := by rfl) :
    PE X (.Call (.Attribute o m apos) [] kws pos) (tMethK A m gV E ta tk) := by
  refine ⟨fun pins s σ H Q I h => ?_⟩
  refine PySem.W.methodCall_KW (pl := pl) (thn (he.run pins s σ H _ I h) fun u s1 ⟨x, H1, I1, rx, a, C, dx, fs, sp, ex, ea, hAC, l, q⟩ => ?_) ht
  subst ex
  obtain rfl : u = Value.ref a := rx
  obtain ⟨f, fd, ps, g, c, hm, F, hb⟩ := (hA C sp hAC).ex
  refine getmeth_ok I1 ea c hm l ?_
  refine PySem.W.callWith_KW0 (first := [.ref a]) (h₀ := X.base) I1.ok.mod.kin hm.kp hall ?_ hpl
  refine thn (hkw.run pos pins s1 σ H1 _ I1 q) fun ws s2 ⟨zs, H2, I2, rz, q2⟩ => ⟨I2.kIn, ?_⟩
  rw [hks]
  exact run_fnkS (us := [.ref a]) (vs := [.ref a]) F hr hb (hx σ) I2 (.cons rfl .nil) rz q2
theorem h_methKE {σ : L2.St} {H : Hp} {Q : VK} (h : ta σ H fun x H1 => ∃ a C dx fs sp, x = .ref a ∧ H1 a = some (.ins C dx fs) ∧ A C sp ∧ fs.lookup m = none ∧ tk σ H1 fun zs H2 => sp (gV [x] zs) H2 Q (E σ)) : tMethK A m gV E ta tk σ H Q := h
end
/-! # tuples: parts and sums -/
section
variable {K : PySem.W.Frag} {B H : Hp} {Q : VK} {p q : Addr} {lo hi : Option Int} {l l2 : List D}
theorem h_slA (w : Ex B H) (r : Rep K B (.ref p) (.tup (l.map Enc.enc))) (h : ∀ u B' H', Stp [] B H B' H' → Rep K B' u (.tup ((cutL l lo hi).map Enc.enc)) → Q u H') : rSlA K (.ref p) lo hi H Q := by
  obtain ⟨p', xs, e, s, rr⟩ := r.st w
  cases e
  refine ⟨p, xs, rfl, s, fun c => ?_, fun _ p2 hp2 => ?_⟩
  · have e : cutL l lo hi = l := by
      have hl : xs.length = l.length := by rw [rr.length, List.length_map]
      rw [hl] at c
      unfold cutL
      rw [c.1, c.2]
      simp
    refine h _ _ _ (Stp.refl w) ?_
    rw [e]
    exact r
  · exact h _ _ _ (Stp.new w hp2) (.tup (SqT.of upd_same) ((rr.cut lo hi).mono (Ex.new (w.none hp2))))
theorem h_catA (w : Ex B H) (r1 : Rep K B (.ref p) (.tup (l.map Enc.enc))) (r2 : Rep K B (.ref q) (.tup (l2.map Enc.enc))) (hz : l.length + l2.length ≤ 1000000) (h : ∀ u B' H', Stp [] B H B' H' → Rep K B' u (.tup ((l ++ l2).map Enc.enc)) → Q u H') : rCatA K (.ref p) (.ref q) H Q := by
  obtain ⟨p', xs, e, s1, rr1⟩ := r1.st w
  cases e
  obtain ⟨q', ys, e, s2, rr2⟩ := r2.st w
  cases e
  have hl : xs.length = l.length := by rw [rr1.length, List.length_map]
  have hl2 : ys.length = l2.length := by rw [rr2.length, List.length_map]
  refine ⟨p, q, xs, ys, rfl, rfl, s1, s2, by rw [hl, hl2]; exact Nat.le_trans hz (by decide), fun e => ?_, fun _ e => ?_, fun _ _ p2 hp2 => ?_⟩
  · subst e
    have : l = [] := List.eq_nil_of_length_eq_zero hl.symm
    subst this
    exact h _ _ _ (Stp.refl w) r2
  · subst e
    have : l2 = [] := List.eq_nil_of_length_eq_zero hl2.symm
    subst this
    refine h _ _ _ (Stp.refl w) ?_
    rw [List.append_nil]
    exact r1
  · exact h _ _ _ (Stp.new w hp2) (.tup (SqT.of upd_same) ((rr1.cat rr2).mono (Ex.new (w.none hp2))))
end
end Y

set_option Elab.async false
set_option linter.all false
set_option maxRecDepth 100000
set_option maxHeartbeats 4000000
/-! # max(xs, default = d): the loop with its keywords -/
namespace MxD
open PySem
section
variable {prog : Program} {w : World} {A : Around} {R : Result → Shared → Prop} {I : Addr} {fp wr : List Addr} {n : Nat} {P : Nat → Value → Prop} {St : Nat → Heap → Prop} {kw : List (Str × Value)}
theorem nm : (toString "max" ++ toString ".loop" : String) = "max.loop" := by decide
/-- behind the first item -/
theorem loop (W : Walks prog w A.in1 I fp wr n P St) (bt : Nat → Nat → Bool) (hcmp : CmpOf prog w A.in1 .Gt P bt) (S : Addr) (off : S ∉ fp) (k : Nat) : ∀ (j : Nat) (s : Shared) (best : Value) (c : Nat), n = j + 1 + k → St (j + 1) s.heap → P (argBest bt j) best →
    s.heap.get? S = some { cls := .type "list", dict := none, data := .seq #[best, best] c, slots := #[] } →
    (∀ v h' tk, P (argBest bt (n - 1)) v → (∀ b o, b ∉ wr → b ≠ S → s.heap.get? b = some o → h'.get? b = some o) → R (.ok (.ret v)) { s with heap := h', toks := tk }) → codeAny (model prog w) A (.builtin "max.loop" ⟨[.ref I, .none, .ref S], kw⟩) R s := by
  have offw : S ∉ wr := fun h => off (W.sub _ h)
  induction k with
  | zero =>
    intro j s best c en st pb hS fin
    refine codeAny_builtin F.entry_max_loop ?_
    rw [Around.under_plainId F.plain_max_loop _]
    show wpAny (model prog w) A.in1 (seqItems? (.ref S) >>= _) _ _ s
    refine wpAny_bind (wpAny_seqItems hS rfl ?_)
    show wpAny (model prog w) A.in1 (tryCatch (pyNext (.ref I)) _ >>= _) _ _ s
    refine wpAny_bind (wpAny_tryCatch (W.done s _ _ (en ▸ st) fun h' tk kept => ?_))
    show wpAny (model prog w) A.in1 (updateSeq S (fun _ => #[]) >>= _) _ _ _
    refine wpAny_bind (wpAny_updateSeq (kept S _ offw hS) rfl (wpAny_bind (wpAny_letGo (wpAny_pure ?_))))
    exact fin best _ tk (by rw [en]; exact pb) fun b o h1 h2 e => (Heap.get?_update_other _ _ h2.symm).trans (kept b o h1 e)
  | succ k ih =>
    intro j s best c en st pb hS fin
    refine codeAny_builtin F.entry_max_loop ?_
    rw [Around.under_plainId F.plain_max_loop _]
    show wpAny (model prog w) A.in1 (seqItems? (.ref S) >>= _) _ _ s
    refine wpAny_bind (wpAny_seqItems hS rfl ?_)
    show wpAny (model prog w) A.in1 (tryCatch (pyNext (.ref I)) _ >>= _) _ _ s
    refine wpAny_bind (wpAny_tryCatch (W.item (j + 1) s _ _ (by omega) st fun v h' tk pv st' kept => ?_))
    have hS' := kept S _ offw hS
    show wpAny (model prog w) A.in1 (tryCatch (holding [v, v] (richCompare .Gt v best >>= _)) _ >>= _) _ _ _
    refine wpAny_bind (wpAny_tryCatch (wpAny_holding (wpAny_bind (hcmp (j + 1) (argBest bt j) v best _ _ _ pv pb ?_))))
    refine wpAny_bind (wpAny_holding (wpAny_truthy_bool (wpAny_bind (wpAny_letGo (wpAny_pure ?_)))))
    by_cases hb : bt (j + 1) (argBest bt j) = true
    · rw [hb]
      simp only [if_true]
      refine wpAny_bind (wpAny_updateSeq hS' rfl (wpAny_bind (wpAny_letGo ?_)))
      rw [nm]
      refine wpAny_pure ⟨plainId_quiet F.plain_max_loop _, ih (j + 1) _ v _ (by omega) (W.frame _ _ _ st' fun b hf o e => (Heap.get?_update_other _ _ (fun q : S = b => off (by rw [q]; exact hf))).trans e) (by simp only [argBest, hb, if_true]; exact pv) (Heap.get?_update_self _ hS' rfl) fun v2 h2 tk2 p2 k2 => ?_⟩
      exact fin v2 h2 tk2 p2 fun b o h1 hn e => k2 b o h1 hn ((Heap.get?_update_other _ _ hn.symm).trans (kept b o h1 e))
    · have hb := Bool.eq_false_iff.mpr hb
      rw [hb]
      simp only [Bool.false_eq_true, if_false]
      refine wpAny_bind (wpAny_letGo ?_)
      rw [nm]
      refine wpAny_pure ⟨plainId_quiet F.plain_max_loop _, ih (j + 1) _ best c (by omega) st' (by simp only [argBest, hb, Bool.false_eq_true, if_false]; exact pb) hS' fun v2 h2 tk2 p2 k2 => ?_⟩
      exact fin v2 h2 tk2 p2 fun b o h1 hn e => k2 b o h1 hn (kept b o h1 e)
theorem first (W : Walks prog w A.in1 I fp wr n P St) (bt : Nat → Nat → Bool) (hcmp : CmpOf prog w A.in1 .Gt P bt) (S : Addr) (off : S ∉ fp) (hn : 0 < n) {s : Shared} {c : Nat} (st : St 0 s.heap)
    (hS : s.heap.get? S = some { cls := .type "list", dict := none, data := .seq #[] c, slots := #[] })
    (fin : ∀ v h' tk, P (argBest bt (n - 1)) v → (∀ b o, b ∉ wr → b ≠ S → s.heap.get? b = some o → h'.get? b = some o) → R (.ok (.ret v)) { s with heap := h', toks := tk }) : codeAny (model prog w) A (.builtin "max.loop" ⟨[.ref I, .none, .ref S], kw⟩) R s := by
  have offw : S ∉ wr := fun h => off (W.sub _ h)
  refine codeAny_builtin F.entry_max_loop ?_
  rw [Around.under_plainId F.plain_max_loop _]
  show wpAny (model prog w) A.in1 (seqItems? (.ref S) >>= _) _ _ s
  refine wpAny_bind (wpAny_seqItems hS rfl ?_)
  show wpAny (model prog w) A.in1 (tryCatch (pyNext (.ref I)) _ >>= _) _ _ s
  refine wpAny_bind (wpAny_tryCatch (W.item 0 s _ _ hn st fun v h' tk pv st' kept => ?_))
  have hS' := kept S _ offw hS
  show wpAny (model prog w) A.in1 (updateSeq S (fun _ => #[v, v]) >>= _) _ _ _
  refine wpAny_bind (wpAny_updateSeq hS' rfl ?_)
  rw [nm]
  refine wpAny_pure ⟨plainId_quiet F.plain_max_loop _, loop W bt hcmp S off (n - 1) 0 _ v _ (by omega) (W.frame _ _ _ st' fun b hf o e => (Heap.get?_update_other _ _ (fun q : S = b => off (by rw [q]; exact hf))).trans e) pv (Heap.get?_update_self _ hS' rfl) fun v2 h2 tk2 p2 k2 => ?_⟩
  exact fin v2 h2 tk2 p2 fun b o h1 hn e => k2 b o h1 hn ((Heap.get?_update_other _ _ hn.symm).trans (kept b o h1 e))
/-- no item: the default -/
theorem none_ (W : Walks prog w A.in1 I fp wr 0 P St) (S : Addr) (off : S ∉ fp) {s : Shared} {c : Nat} {d : Value} {x : Str} (st : St 0 s.heap)
    (hS : s.heap.get? S = some { cls := .type "list", dict := none, data := .seq #[] c, slots := #[] })
    (fin : ∀ h' tk, (∀ b o, b ∉ wr → b ≠ S → s.heap.get? b = some o → h'.get? b = some o) → R (.ok (.ret d)) { s with heap := h', toks := tk }) : codeAny (model prog w) A (.builtin "max.loop" ⟨[.ref I, .none, .ref S], [(x, d)]⟩) R s := by
  refine codeAny_builtin F.entry_max_loop ?_
  rw [Around.under_plainId F.plain_max_loop _]
  show wpAny (model prog w) A.in1 (seqItems? (.ref S) >>= _) _ _ s
  refine wpAny_bind (wpAny_seqItems hS rfl ?_)
  show wpAny (model prog w) A.in1 (tryCatch (pyNext (.ref I)) _ >>= _) _ _ s
  refine wpAny_bind (wpAny_tryCatch (W.done s _ _ st fun h' tk kept => ?_))
  exact wpAny_bind (wpAny_rule (wpAny_pure (fin h' tk fun b o h1 _ e => kept b o h1 e)))
end
theorem args_max_d (a d : Value) : argsOk "max" ⟨[a], [(Str.ofString "default", d)]⟩ := by unfold argsOk; kernel_rfl
end MxD
namespace Y
open PySem PySem.Spec PyProof.Rows
open L2
theorem ExcT.toExcT {K : PySem.W.Frag} {mg : Str → Option Value} {nm : Str} {C : Addr} (T : ExcT K mg nm C) : ExcT K mg nm C := T
end Y

set_option Elab.async false
set_option linter.all false
set_option maxRecDepth 100000
set_option maxHeartbeats 4000000
namespace A
open PySem PySem.Spec PyProof.Rows L2 Y
open Y.Enc (enc)
abbrev top (i : Nat) : Stmt := PySem.Challenge.pw_lanescroll_k07_no_leaves.main.body.getD i (.Pass ⟨0, 0, 0, 0⟩)
def isWhole (d : D) (lo hi : Int) : Bool := match d with
  | .int i => decide (lo ≤ i) && decide (i ≤ hi)
  | _ => false
def m_is_whole (d : D) (lo hi : Int) : Res Bool := .ok (isWhole d lo hi)
inductive K_Rule where
  | Plain (worth : Int)
  | Moved (back : Int) (cell : Int) (add : Int)
  | Mixed (back : Int) (cell : Int) (other_back : Int) (other_cell : Int)
instance : Enc K_Rule := ⟨fun x => match x with
  | .Plain worth => .obj "Plain" [("worth", enc worth)]
  | .Moved back cell add => .obj "Moved" [("back", enc back), ("cell", enc cell), ("add", enc add)]
  | .Mixed back cell other_back other_cell => .obj "Mixed" [("back", enc back), ("cell", enc cell), ("other_back", enc other_back), ("other_cell", enc other_cell)]⟩
def f_Rule_worth (x : K_Rule) : Res Int := match x with
  | .Plain worth => .ok worth
  | .Moved .. => .stuck
  | .Mixed .. => .stuck
theorem get_Rule_worth {β : Type} {x : K_Rule} {k : Int → Res β} {P : β → Prop} {R : Err → Prop} (h : Post ((f_Rule_worth x).bind k) P R) : ∃ a, f_Rule_worth x = .ok a ∧ Post (k a) P R := by
  cases x with
  | Plain worth => exact ⟨_, rfl, h⟩
  | Moved back cell add => exact h.elim
  | Mixed back cell other_back other_cell => exact h.elim
theorem fld_Rule_worth {K : PySem.W.Frag} {mg : Str → Option Value} {B H : Hp} {v : V} {Q : VK} {x : K_Rule} {a : Int} {C_Plain : Addr} (T_Plain : KI K mg "Plain" C_Plain) (n_Plain : NoAttr K C_Plain "worth") (w : Ex B H) (r : Rep K B v (enc x)) (e : f_Rule_worth x = .ok a) (h : ∀ u, Rep K B u (enc a) → Q u H) : Fld K "worth" v H Q := by
  cases x with
  | Plain worth => cases e; exact h_fld w r T_Plain.toKC n_Plain lk0 h
  | Moved back cell add => exact nomatch e
  | Mixed back cell other_back other_cell => exact nomatch e
def f_Rule_back (x : K_Rule) : Res Int := match x with
  | .Plain .. => .stuck
  | .Moved back cell add => .ok back
  | .Mixed back cell other_back other_cell => .ok back
theorem get_Rule_back {β : Type} {x : K_Rule} {k : Int → Res β} {P : β → Prop} {R : Err → Prop} (h : Post ((f_Rule_back x).bind k) P R) : ∃ a, f_Rule_back x = .ok a ∧ Post (k a) P R := by
  cases x with
  | Plain worth => exact h.elim
  | Moved back cell add => exact ⟨_, rfl, h⟩
  | Mixed back cell other_back other_cell => exact ⟨_, rfl, h⟩
theorem fld_Rule_back {K : PySem.W.Frag} {mg : Str → Option Value} {B H : Hp} {v : V} {Q : VK} {x : K_Rule} {a : Int} {C_Moved C_Mixed : Addr} (T_Moved : KI K mg "Moved" C_Moved) (n_Moved : NoAttr K C_Moved "back") (T_Mixed : KI K mg "Mixed" C_Mixed) (n_Mixed : NoAttr K C_Mixed "back") (w : Ex B H) (r : Rep K B v (enc x)) (e : f_Rule_back x = .ok a) (h : ∀ u, Rep K B u (enc a) → Q u H) : Fld K "back" v H Q := by
  cases x with
  | Plain worth => exact nomatch e
  | Moved back cell add => cases e; exact h_fld w r T_Moved.toKC n_Moved lk0 h
  | Mixed back cell other_back other_cell => cases e; exact h_fld w r T_Mixed.toKC n_Mixed lk0 h
def f_Rule_cell (x : K_Rule) : Res Int := match x with
  | .Plain .. => .stuck
  | .Moved back cell add => .ok cell
  | .Mixed back cell other_back other_cell => .ok cell
theorem get_Rule_cell {β : Type} {x : K_Rule} {k : Int → Res β} {P : β → Prop} {R : Err → Prop} (h : Post ((f_Rule_cell x).bind k) P R) : ∃ a, f_Rule_cell x = .ok a ∧ Post (k a) P R := by
  cases x with
  | Plain worth => exact h.elim
  | Moved back cell add => exact ⟨_, rfl, h⟩
  | Mixed back cell other_back other_cell => exact ⟨_, rfl, h⟩
theorem fld_Rule_cell {K : PySem.W.Frag} {mg : Str → Option Value} {B H : Hp} {v : V} {Q : VK} {x : K_Rule} {a : Int} {C_Moved C_Mixed : Addr} (T_Moved : KI K mg "Moved" C_Moved) (n_Moved : NoAttr K C_Moved "cell") (T_Mixed : KI K mg "Mixed" C_Mixed) (n_Mixed : NoAttr K C_Mixed "cell") (w : Ex B H) (r : Rep K B v (enc x)) (e : f_Rule_cell x = .ok a) (h : ∀ u, Rep K B u (enc a) → Q u H) : Fld K "cell" v H Q := by
  cases x with
  | Plain worth => exact nomatch e
  | Moved back cell add => cases e; exact h_fld w r T_Moved.toKC n_Moved (lkS (by decide +kernel) lk0) h
  | Mixed back cell other_back other_cell => cases e; exact h_fld w r T_Mixed.toKC n_Mixed (lkS (by decide +kernel) lk0) h
def f_Rule_add (x : K_Rule) : Res Int := match x with
  | .Plain .. => .stuck
  | .Moved back cell add => .ok add
  | .Mixed .. => .stuck
theorem get_Rule_add {β : Type} {x : K_Rule} {k : Int → Res β} {P : β → Prop} {R : Err → Prop} (h : Post ((f_Rule_add x).bind k) P R) : ∃ a, f_Rule_add x = .ok a ∧ Post (k a) P R := by
  cases x with
  | Plain worth => exact h.elim
  | Moved back cell add => exact ⟨_, rfl, h⟩
  | Mixed back cell other_back other_cell => exact h.elim
theorem fld_Rule_add {K : PySem.W.Frag} {mg : Str → Option Value} {B H : Hp} {v : V} {Q : VK} {x : K_Rule} {a : Int} {C_Moved : Addr} (T_Moved : KI K mg "Moved" C_Moved) (n_Moved : NoAttr K C_Moved "add") (w : Ex B H) (r : Rep K B v (enc x)) (e : f_Rule_add x = .ok a) (h : ∀ u, Rep K B u (enc a) → Q u H) : Fld K "add" v H Q := by
  cases x with
  | Plain worth => exact nomatch e
  | Moved back cell add => cases e; exact h_fld w r T_Moved.toKC n_Moved (lkS (by decide +kernel) (lkS (by decide +kernel) lk0)) h
  | Mixed back cell other_back other_cell => exact nomatch e
def f_Rule_other_back (x : K_Rule) : Res Int := match x with
  | .Plain .. => .stuck
  | .Moved .. => .stuck
  | .Mixed back cell other_back other_cell => .ok other_back
theorem get_Rule_other_back {β : Type} {x : K_Rule} {k : Int → Res β} {P : β → Prop} {R : Err → Prop} (h : Post ((f_Rule_other_back x).bind k) P R) : ∃ a, f_Rule_other_back x = .ok a ∧ Post (k a) P R := by
  cases x with
  | Plain worth => exact h.elim
  | Moved back cell add => exact h.elim
  | Mixed back cell other_back other_cell => exact ⟨_, rfl, h⟩
theorem fld_Rule_other_back {K : PySem.W.Frag} {mg : Str → Option Value} {B H : Hp} {v : V} {Q : VK} {x : K_Rule} {a : Int} {C_Mixed : Addr} (T_Mixed : KI K mg "Mixed" C_Mixed) (n_Mixed : NoAttr K C_Mixed "other_back") (w : Ex B H) (r : Rep K B v (enc x)) (e : f_Rule_other_back x = .ok a) (h : ∀ u, Rep K B u (enc a) → Q u H) : Fld K "other_back" v H Q := by
  cases x with
  | Plain worth => exact nomatch e
  | Moved back cell add => exact nomatch e
  | Mixed back cell other_back other_cell => cases e; exact h_fld w r T_Mixed.toKC n_Mixed (lkS (by decide +kernel) (lkS (by decide +kernel) lk0)) h
def f_Rule_other_cell (x : K_Rule) : Res Int := match x with
  | .Plain .. => .stuck
  | .Moved .. => .stuck
  | .Mixed back cell other_back other_cell => .ok other_cell
theorem get_Rule_other_cell {β : Type} {x : K_Rule} {k : Int → Res β} {P : β → Prop} {R : Err → Prop} (h : Post ((f_Rule_other_cell x).bind k) P R) : ∃ a, f_Rule_other_cell x = .ok a ∧ Post (k a) P R := by
  cases x with
  | Plain worth => exact h.elim
  | Moved back cell add => exact h.elim
  | Mixed back cell other_back other_cell => exact ⟨_, rfl, h⟩
theorem fld_Rule_other_cell {K : PySem.W.Frag} {mg : Str → Option Value} {B H : Hp} {v : V} {Q : VK} {x : K_Rule} {a : Int} {C_Mixed : Addr} (T_Mixed : KI K mg "Mixed" C_Mixed) (n_Mixed : NoAttr K C_Mixed "other_cell") (w : Ex B H) (r : Rep K B v (enc x)) (e : f_Rule_other_cell x = .ok a) (h : ∀ u, Rep K B u (enc a) → Q u H) : Fld K "other_cell" v H Q := by
  cases x with
  | Plain worth => exact nomatch e
  | Moved back cell add => exact nomatch e
  | Mixed back cell other_back other_cell => cases e; exact h_fld w r T_Mixed.toKC n_Mixed (lkS (by decide +kernel) (lkS (by decide +kernel) (lkS (by decide +kernel) lk0))) h
inductive K_Leaf where
  | Full (begin : Int) (span : Int) (worths : D)
  | Still (begin : Int) (span : Int) (back : Int)
  | Woven (begin : Int) (span : Int) (rules : D)
instance : Enc K_Leaf := ⟨fun x => match x with
  | .Full begin span worths => .obj "Full" [("begin", enc begin), ("span", enc span), ("worths", enc worths)]
  | .Still begin span back => .obj "Still" [("begin", enc begin), ("span", enc span), ("back", enc back)]
  | .Woven begin span rules => .obj "Woven" [("begin", enc begin), ("span", enc span), ("rules", enc rules)]⟩
def f_Leaf_begin (x : K_Leaf) : Res Int := match x with
  | .Full begin span worths => .ok begin
  | .Still begin span back => .ok begin
  | .Woven begin span rules => .ok begin
theorem get_Leaf_begin {β : Type} {x : K_Leaf} {k : Int → Res β} {P : β → Prop} {R : Err → Prop} (h : Post ((f_Leaf_begin x).bind k) P R) : ∃ a, f_Leaf_begin x = .ok a ∧ Post (k a) P R := by
  cases x with
  | Full begin span worths => exact ⟨_, rfl, h⟩
  | Still begin span back => exact ⟨_, rfl, h⟩
  | Woven begin span rules => exact ⟨_, rfl, h⟩
theorem fld_Leaf_begin {K : PySem.W.Frag} {mg : Str → Option Value} {B H : Hp} {v : V} {Q : VK} {x : K_Leaf} {a : Int} {C_Full C_Still C_Woven : Addr} (T_Full : KI K mg "Full" C_Full) (n_Full : NoAttr K C_Full "begin") (T_Still : KI K mg "Still" C_Still) (n_Still : NoAttr K C_Still "begin") (T_Woven : KI K mg "Woven" C_Woven) (n_Woven : NoAttr K C_Woven "begin") (w : Ex B H) (r : Rep K B v (enc x)) (e : f_Leaf_begin x = .ok a) (h : ∀ u, Rep K B u (enc a) → Q u H) : Fld K "begin" v H Q := by
  cases x with
  | Full begin span worths => cases e; exact h_fld w r T_Full.toKC n_Full lk0 h
  | Still begin span back => cases e; exact h_fld w r T_Still.toKC n_Still lk0 h
  | Woven begin span rules => cases e; exact h_fld w r T_Woven.toKC n_Woven lk0 h
def f_Leaf_span (x : K_Leaf) : Res Int := match x with
  | .Full begin span worths => .ok span
  | .Still begin span back => .ok span
  | .Woven begin span rules => .ok span
theorem get_Leaf_span {β : Type} {x : K_Leaf} {k : Int → Res β} {P : β → Prop} {R : Err → Prop} (h : Post ((f_Leaf_span x).bind k) P R) : ∃ a, f_Leaf_span x = .ok a ∧ Post (k a) P R := by
  cases x with
  | Full begin span worths => exact ⟨_, rfl, h⟩
  | Still begin span back => exact ⟨_, rfl, h⟩
  | Woven begin span rules => exact ⟨_, rfl, h⟩
theorem fld_Leaf_span {K : PySem.W.Frag} {mg : Str → Option Value} {B H : Hp} {v : V} {Q : VK} {x : K_Leaf} {a : Int} {C_Full C_Still C_Woven : Addr} (T_Full : KI K mg "Full" C_Full) (n_Full : NoAttr K C_Full "span") (T_Still : KI K mg "Still" C_Still) (n_Still : NoAttr K C_Still "span") (T_Woven : KI K mg "Woven" C_Woven) (n_Woven : NoAttr K C_Woven "span") (w : Ex B H) (r : Rep K B v (enc x)) (e : f_Leaf_span x = .ok a) (h : ∀ u, Rep K B u (enc a) → Q u H) : Fld K "span" v H Q := by
  cases x with
  | Full begin span worths => cases e; exact h_fld w r T_Full.toKC n_Full (lkS (by decide +kernel) lk0) h
  | Still begin span back => cases e; exact h_fld w r T_Still.toKC n_Still (lkS (by decide +kernel) lk0) h
  | Woven begin span rules => cases e; exact h_fld w r T_Woven.toKC n_Woven (lkS (by decide +kernel) lk0) h
def f_Leaf_worths (x : K_Leaf) : Res D := match x with
  | .Full begin span worths => .ok worths
  | .Still .. => .stuck
  | .Woven .. => .stuck
theorem get_Leaf_worths {β : Type} {x : K_Leaf} {k : D → Res β} {P : β → Prop} {R : Err → Prop} (h : Post ((f_Leaf_worths x).bind k) P R) : ∃ a, f_Leaf_worths x = .ok a ∧ Post (k a) P R := by
  cases x with
  | Full begin span worths => exact ⟨_, rfl, h⟩
  | Still begin span back => exact h.elim
  | Woven begin span rules => exact h.elim
theorem fld_Leaf_worths {K : PySem.W.Frag} {mg : Str → Option Value} {B H : Hp} {v : V} {Q : VK} {x : K_Leaf} {a : D} {C_Full : Addr} (T_Full : KI K mg "Full" C_Full) (n_Full : NoAttr K C_Full "worths") (w : Ex B H) (r : Rep K B v (enc x)) (e : f_Leaf_worths x = .ok a) (h : ∀ u, Rep K B u (enc a) → Q u H) : Fld K "worths" v H Q := by
  cases x with
  | Full begin span worths => cases e; exact h_fld w r T_Full.toKC n_Full (lkS (by decide +kernel) (lkS (by decide +kernel) lk0)) h
  | Still begin span back => exact nomatch e
  | Woven begin span rules => exact nomatch e
def f_Leaf_back (x : K_Leaf) : Res Int := match x with
  | .Full .. => .stuck
  | .Still begin span back => .ok back
  | .Woven .. => .stuck
theorem get_Leaf_back {β : Type} {x : K_Leaf} {k : Int → Res β} {P : β → Prop} {R : Err → Prop} (h : Post ((f_Leaf_back x).bind k) P R) : ∃ a, f_Leaf_back x = .ok a ∧ Post (k a) P R := by
  cases x with
  | Full begin span worths => exact h.elim
  | Still begin span back => exact ⟨_, rfl, h⟩
  | Woven begin span rules => exact h.elim
theorem fld_Leaf_back {K : PySem.W.Frag} {mg : Str → Option Value} {B H : Hp} {v : V} {Q : VK} {x : K_Leaf} {a : Int} {C_Still : Addr} (T_Still : KI K mg "Still" C_Still) (n_Still : NoAttr K C_Still "back") (w : Ex B H) (r : Rep K B v (enc x)) (e : f_Leaf_back x = .ok a) (h : ∀ u, Rep K B u (enc a) → Q u H) : Fld K "back" v H Q := by
  cases x with
  | Full begin span worths => exact nomatch e
  | Still begin span back => cases e; exact h_fld w r T_Still.toKC n_Still (lkS (by decide +kernel) (lkS (by decide +kernel) lk0)) h
  | Woven begin span rules => exact nomatch e
def f_Leaf_rules (x : K_Leaf) : Res D := match x with
  | .Full .. => .stuck
  | .Still .. => .stuck
  | .Woven begin span rules => .ok rules
theorem get_Leaf_rules {β : Type} {x : K_Leaf} {k : D → Res β} {P : β → Prop} {R : Err → Prop} (h : Post ((f_Leaf_rules x).bind k) P R) : ∃ a, f_Leaf_rules x = .ok a ∧ Post (k a) P R := by
  cases x with
  | Full begin span worths => exact h.elim
  | Still begin span back => exact h.elim
  | Woven begin span rules => exact ⟨_, rfl, h⟩
theorem fld_Leaf_rules {K : PySem.W.Frag} {mg : Str → Option Value} {B H : Hp} {v : V} {Q : VK} {x : K_Leaf} {a : D} {C_Woven : Addr} (T_Woven : KI K mg "Woven" C_Woven) (n_Woven : NoAttr K C_Woven "rules") (w : Ex B H) (r : Rep K B v (enc x)) (e : f_Leaf_rules x = .ok a) (h : ∀ u, Rep K B u (enc a) → Q u H) : Fld K "rules" v H Q := by
  cases x with
  | Full begin span worths => exact nomatch e
  | Still begin span back => exact nomatch e
  | Woven begin span rules => cases e; exact h_fld w r T_Woven.toKC n_Woven (lkS (by decide +kernel) (lkS (by decide +kernel) lk0)) h
/-! ### is_whole -/
def sp_is_whole (K : PySem.W.Frag) : Sp := fun vs H Q _ => ∃ (B : Hp) (v_thing : V) (a_thing : D) (a_low : Int) (a_high : Int), Ex B H ∧ vs = [v_thing, .int a_low, .int a_high] ∧ Rep K B v_thing (enc a_thing) ∧ Post (m_is_whole a_thing a_low a_high) (fun r => Ret K [] B H (enc r) Q) (fun _ => False)
abbrev s_is_whole : Stmt := top 8
theorem sc_is_whole : FnScope ["thing", "low", "high"] ["thing", "low", "high"] (defScope s_is_whole) := ⟨rfl, rfl, rfl, by decide +kernel, rfl, by decide +kernel, by decide +kernel⟩
/-! ### is_need -/
def m_is_need (a_back : D) (a_cell : D) : Res Bool :=
  (m_is_whole a_back 1 200).bind fun x1 => (if x1 = true then (m_is_whole a_cell 0 15).bind fun x7 => .ok x7 else .ok false)
def sp_is_need (K : PySem.W.Frag) : Sp := fun vs H Q _ => ∃ (B : Hp) (v_back : V) (a_back : D) (v_cell : V) (a_cell : D), Ex B H ∧ vs = [v_back, v_cell] ∧ Rep K B v_back (enc a_back) ∧ Rep K B v_cell (enc a_cell) ∧ Post (m_is_need a_back a_cell) (fun r => Ret K [] B H (enc r) Q) (fun _ => False)
abbrev s_is_need : Stmt := top 14
theorem sc_is_need : FnScope ["back", "cell"] ["back", "cell"] (defScope s_is_need) := ⟨rfl, rfl, rfl, by decide +kernel, rfl, by decide +kernel, by decide +kernel⟩
/-! ### Plain____init__ -/
abbrev s_Plain____init__ : Stmt := inClass (top 11) 0
theorem sc_Plain____init__ : FnScope ["self", "value"] ["self", "value"] (defScope s_Plain____init__) := ⟨rfl, rfl, rfl, by decide +kernel, rfl, by decide +kernel, by decide +kernel⟩
/-! ### Moved____init__ -/
abbrev s_Moved____init__ : Stmt := inClass (top 12) 0
theorem sc_Moved____init__ : FnScope ["self", "back", "cell", "add"] ["self", "back", "cell", "add"] (defScope s_Moved____init__) := ⟨rfl, rfl, rfl, by decide +kernel, rfl, by decide +kernel, by decide +kernel⟩
/-! ### Mixed____init__ -/
abbrev s_Mixed____init__ : Stmt := inClass (top 13) 0
theorem sc_Mixed____init__ : FnScope ["self", "back", "cell", "other_back", "other_cell"] ["self", "back", "cell", "other_back", "other_cell"] (defScope s_Mixed____init__) := ⟨rfl, rfl, rfl, by decide +kernel, rfl, by decide +kernel, by decide +kernel⟩
/-! ### rule_of -/
def m_rule_of (a_told : D) : Res K_Rule :=
  (if (isA "tuple" a_told) = true then (asT a_told).bind fun l1 => (if (decide ((l1.length : Int) = 0)) = true then .err ⟨"NoRule", []⟩ else ((asT a_told).bind fun l11 => (ixR l11 0).bind fun x18 => guardR (okEq x18 (enc ("plain" : Str))) <| (if (eqD x18 (enc ("plain" : Str))) = true then (asT a_told).bind fun l22 => (if (decide ((l22.length : Int) = 2)) = true then (asT a_told).bind fun l29 => (ixR l29 1).bind fun x36 => ((m_is_whole x36 0 255).noErr).bind fun x40 => .ok x40 else .ok false) else .ok false) : Res Bool).bind fun b46 => (if b46 = true then (asT a_told).bind fun l50 => (ixR l50 1).bind fun x57 => (asI x57).bind fun i61 => .ok (K_Rule.Plain i61) else (((asT a_told).bind fun l76 => (ixR l76 0).bind fun x83 => guardR (okEq x83 (enc ("moved" : Str))) <| (if (eqD x83 (enc ("moved" : Str))) = true then (asT a_told).bind fun l87 => (if (decide ((l87.length : Int) = 4)) = true then (asT a_told).bind fun l94 => (ixR l94 1).bind fun x101 => (asT a_told).bind fun l105 => (ixR l105 2).bind fun x112 => ((m_is_need x101 x112).noErr).bind fun x116 => .ok x116 else .ok false) else .ok false) : Res Bool).bind fun b122 => (if b122 = true then (asT a_told).bind fun l126 => (ixR l126 3).bind fun x133 => ((m_is_whole x133 0 255).noErr).bind fun x137 => (if x137 = true then (asT a_told).bind fun l143 => (ixR l143 1).bind fun x150 => (asT a_told).bind fun l154 => (ixR l154 2).bind fun x161 => (asT a_told).bind fun l165 => (ixR l165 3).bind fun x172 => (asI x150).bind fun i176 => (asI x161).bind fun i179 => (asI x172).bind fun i182 => .ok (.rt (K_Rule.Moved i176 i179 i182)) else .ok (.nx ())) else .ok (.nx ())) : Res (Fl (Unit) _)).bind (afterR fun a190 => (((asT a_told).bind fun l201 => (ixR l201 0).bind fun x208 => guardR (okEq x208 (enc ("mixed" : Str))) <| (if (eqD x208 (enc ("mixed" : Str))) = true then (asT a_told).bind fun l212 => .ok (decide ((l212.length : Int) = 5)) else .ok false) : Res Bool).bind fun b219 => (if b219 = true then ((asT a_told).bind fun l226 => (ixR l226 1).bind fun x233 => (asT a_told).bind fun l237 => (ixR l237 2).bind fun x244 => ((m_is_need x233 x244).noErr).bind fun x248 => (if x248 = true then (asT a_told).bind fun l254 => (ixR l254 3).bind fun x261 => (asT a_told).bind fun l265 => (ixR l265 4).bind fun x272 => ((m_is_need x261 x272).noErr).bind fun x276 => .ok x276 else .ok false) : Res Bool).bind fun b282 => (if b282 = true then (asT a_told).bind fun l286 => (ixR l286 1).bind fun x293 => (asT a_told).bind fun l297 => (ixR l297 2).bind fun x304 => (asT a_told).bind fun l308 => (ixR l308 3).bind fun x315 => (asT a_told).bind fun l319 => (ixR l319 4).bind fun x326 => (asI x293).bind fun i330 => (asI x304).bind fun i333 => (asI x315).bind fun i336 => (asI x326).bind fun i339 => .ok (.rt (K_Rule.Mixed i330 i333 i336 i339)) else .ok (.nx ())) else .ok (.nx ())) : Res (Fl (Unit) _)).bind (afterR fun a347 => .err ⟨"NoRule", []⟩)))) else .err ⟨"NoRule", []⟩)
def sp_rule_of (K : PySem.W.Frag) (mg : Str → Option Value) : Sp := fun vs H Q E => ∃ (B : Hp) (v_told : V) (a_told : D), Ex B H ∧ vs = [v_told] ∧ Rep K B v_told (enc a_told) ∧ Post (m_rule_of a_told) (fun r => Ret K [] B H (enc r) Q) (fun e => Rai mg [] B H e E)
abbrev s_rule_of : Stmt := top 15
theorem sc_rule_of : FnScope ["told"] ["told"] (defScope s_rule_of) := ⟨rfl, rfl, rfl, by decide +kernel, rfl, by decide +kernel, by decide +kernel⟩
/-! ### is_value -/
def m_is_value (a_thing : D) : Res Bool :=
  (m_is_whole a_thing 0 255).bind fun x1 => .ok x1
def sp_is_value (K : PySem.W.Frag) : Sp := fun vs H Q _ => ∃ (B : Hp) (v_thing : V) (a_thing : D), Ex B H ∧ vs = [v_thing] ∧ Rep K B v_thing (enc a_thing) ∧ Post (m_is_value a_thing) (fun r => Ret K [] B H (enc r) Q) (fun _ => False)
abbrev s_is_value : Stmt := top 21
theorem sc_is_value : FnScope ["thing"] ["thing"] (defScope s_is_value) := ⟨rfl, rfl, rfl, by decide +kernel, rfl, by decide +kernel, by decide +kernel⟩
/-! ### is_rule -/
def m_is_rule (a_thing : D) : Res Bool :=
  (tryR ((m_rule_of a_thing).bind fun x7 => .ok (.nx ()) : Res (Fl (Unit) (Bool))) (fun ⟨ec, _⟩ => guardR (ec ∈ (["NoRule"] : List Str)) <| .ok (.rt false))).bind (afterR fun a19 => .ok true)
def sp_is_rule (K : PySem.W.Frag) : Sp := fun vs H Q _ => ∃ (B : Hp) (v_thing : V) (a_thing : D), Ex B H ∧ vs = [v_thing] ∧ Rep K B v_thing (enc a_thing) ∧ Post (m_is_rule a_thing) (fun r => Ret K [] B H (enc r) Q) (fun _ => False)
abbrev s_is_rule : Stmt := top 22
theorem sc_is_rule : FnScope ["thing"] ["thing"] (defScope s_is_rule) := ⟨rfl, rfl, rfl, by decide +kernel, rfl, by decide +kernel, by decide +kernel⟩
/-! ### is_row_of__is_value -/
def m_is_row_of__is_value (a_thing : D) : Res Bool :=
  (if (isA "tuple" a_thing) = true then (asT a_thing).bind fun l1 => (if (decide (1 ≤ (l1.length : Int))) = true then (if (decide ((l1.length : Int) ≤ 16)) = true then (asT a_thing).bind fun l8 => (compR (l8) (() : Unit) (fun x18 (a22 : Unit) => (m_is_value x18).bind fun x34 => .ok (some x34, ()))).bind <| un2 fun acc21 a22 => .ok (acc21.all id) else .ok false) else .ok false) else .ok false)
def sp_is_row_of__is_value (K : PySem.W.Frag) (f_is_value : Addr) : Sp := fun vs H Q _ => ∃ (B : Hp) (v_thing : V) (a_thing : D), Ex B H ∧ vs = [v_thing, .ref f_is_value] ∧ Rep K B v_thing (enc a_thing) ∧ Post (m_is_row_of__is_value a_thing) (fun r => Ret K [] B H (enc r) Q) (fun _ => False)
abbrev s_is_row_of__is_value : Stmt := top 23
theorem sc_is_row_of__is_value : FnScope ["thing", "good", "one"] ["thing", "good"] (defScope s_is_row_of__is_value) := ⟨rfl, rfl, rfl, by decide +kernel, rfl, by decide +kernel, by decide +kernel⟩
/-! ### is_row_of__is_rule -/
def m_is_row_of__is_rule (a_thing : D) : Res Bool :=
  (if (isA "tuple" a_thing) = true then (asT a_thing).bind fun l1 => (if (decide (1 ≤ (l1.length : Int))) = true then (if (decide ((l1.length : Int) ≤ 16)) = true then (asT a_thing).bind fun l8 => (compR (l8) (() : Unit) (fun x18 (a22 : Unit) => (m_is_rule x18).bind fun x34 => .ok (some x34, ()))).bind <| un2 fun acc21 a22 => .ok (acc21.all id) else .ok false) else .ok false) else .ok false)
def sp_is_row_of__is_rule (K : PySem.W.Frag) (f_is_rule : Addr) : Sp := fun vs H Q _ => ∃ (B : Hp) (v_thing : V) (a_thing : D), Ex B H ∧ vs = [v_thing, .ref f_is_rule] ∧ Rep K B v_thing (enc a_thing) ∧ Post (m_is_row_of__is_rule a_thing) (fun r => Ret K [] B H (enc r) Q) (fun _ => False)
abbrev s_is_row_of__is_rule : Stmt := top 23
theorem sc_is_row_of__is_rule : FnScope ["thing", "good", "one"] ["thing", "good"] (defScope s_is_row_of__is_rule) := ⟨rfl, rfl, rfl, by decide +kernel, rfl, by decide +kernel, by decide +kernel⟩
/-! ### Leaf____init__ -/
abbrev s_Leaf____init__ : Stmt := inClass (top 17) 0
theorem sc_Leaf____init__ : FnScope ["self", "begin", "span"] ["self", "begin", "span"] (defScope s_Leaf____init__) := ⟨rfl, rfl, rfl, by decide +kernel, rfl, by decide +kernel, by decide +kernel⟩
/-! ### Full____init__ -/
abbrev s_Full____init__ : Stmt := inClass (top 18) 0
theorem sc_Full____init__ : FnScope ["self", "begin", "span", "values"] ["self", "begin", "span", "values"] (defScope s_Full____init__) := ⟨rfl, rfl, rfl, by decide +kernel, rfl, by decide +kernel, by decide +kernel⟩
/-! ### Still____init__ -/
abbrev s_Still____init__ : Stmt := inClass (top 19) 0
theorem sc_Still____init__ : FnScope ["self", "begin", "span", "back"] ["self", "begin", "span", "back"] (defScope s_Still____init__) := ⟨rfl, rfl, rfl, by decide +kernel, rfl, by decide +kernel, by decide +kernel⟩
/-! ### Woven____init__ -/
abbrev s_Woven____init__ : Stmt := inClass (top 20) 0
theorem sc_Woven____init__ : FnScope ["self", "begin", "span", "rules"] ["self", "begin", "span", "rules"] (defScope s_Woven____init__) := ⟨rfl, rfl, rfl, by decide +kernel, rfl, by decide +kernel, by decide +kernel⟩
/-! ### leaf_of -/
def m_leaf_of (a_told : D) : Res K_Leaf :=
  (if (isA "tuple" a_told) = true then (asT a_told).bind fun l1 => (if (!decide ((l1.length : Int) = 4)) = true then .err ⟨"NoLeaf", []⟩ else (asT a_told).bind fun l8 => guardR (l8.length = 4) <| (ixR l8 0).bind fun x16 => (ixR l8 1).bind fun x20 => (ixR l8 2).bind fun x24 => (ixR l8 3).bind fun x28 => ((m_is_whole x20 0 1000000000).noErr).bind fun x32 => (if x32 = true then ((m_is_whole x24 1 1000000000).noErr).bind fun x38 => (if x38 = true then (guardR (okEq x16 (enc ("full" : Str))) <| (if (eqD x16 (enc ("full" : Str))) = true then ((m_is_row_of__is_value x28).noErr).bind fun x47 => .ok x47 else .ok false) : Res Bool).bind fun b53 => (if b53 = true then (asI x20).bind fun i57 => (asI x24).bind fun i60 => .ok (K_Leaf.Full i57 i60 x28) else (guardR (okEq x16 (enc ("still" : Str))) <| (if (eqD x16 (enc ("still" : Str))) = true then ((m_is_whole x28 1 200).noErr).bind fun x71 => .ok x71 else .ok false) : Res Bool).bind fun b77 => (if b77 = true then (asI x20).bind fun i81 => (asI x24).bind fun i84 => (asI x28).bind fun i87 => .ok (K_Leaf.Still i81 i84 i87) else (guardR (okEq x16 (enc ("woven" : Str))) <| (if (eqD x16 (enc ("woven" : Str))) = true then ((m_is_row_of__is_rule x28).noErr).bind fun x98 => .ok x98 else .ok false) : Res Bool).bind fun b104 => (if b104 = true then (asI x20).bind fun i108 => (asI x24).bind fun i111 => .ok (K_Leaf.Woven i108 i111 x28) else .err ⟨"NoLeaf", []⟩))) else .err ⟨"NoLeaf", []⟩) else .err ⟨"NoLeaf", []⟩)) else .err ⟨"NoLeaf", []⟩)
def sp_leaf_of (K : PySem.W.Frag) (mg : Str → Option Value) : Sp := fun vs H Q E => ∃ (B : Hp) (v_told : V) (a_told : D), Ex B H ∧ vs = [v_told] ∧ Rep K B v_told (enc a_told) ∧ Post (m_leaf_of a_told) (fun r => Ret K [] B H (enc r) Q) (fun e => Rai mg [] B H e E)
abbrev s_leaf_of : Stmt := top 24
theorem sc_leaf_of : FnScope ["told", "word", "begin", "span", "rest"] ["told"] (defScope s_leaf_of) := ⟨rfl, rfl, rfl, by decide +kernel, rfl, by decide +kernel, by decide +kernel⟩
/-! ### _law_cell_at -/
def l_cell_at (a_script : (List Int)) (a_k : Int) : Res Int :=
  (if (decide (a_k < (a_script.length : Int))) = true then (ixR a_script a_k).bind fun x9 => .ok x9 else guardR (okEq (enc a_script) (enc ([] : List D))) <| (if (eqD (enc a_script) (enc ([] : List D))) = true then .ok a_k else guardR (0 < (a_script.length : Int)) <| (ixR a_script (a_k % (a_script.length : Int))).bind fun x30 => .ok (x30 + (104729 * a_k))))
def sp__law_cell_at (K : PySem.W.Frag) : Sp := fun vs H Q _ => ∃ (B : Hp) (v_script : V) (a_script : (List Int)) (a_k : Int), Ex B H ∧ vs = [v_script, .int a_k] ∧ Bor K B H [] v_script (a_script.map enc) ∧ Post (l_cell_at a_script a_k) (fun r => Ret K [] B H (enc r) Q) (fun _ => False)
abbrev s__law_cell_at : Stmt := top 26
theorem sc__law_cell_at : FnScope ["_law_script", "_law_k"] ["_law_script", "_law_k"] (defScope s__law_cell_at) := ⟨rfl, rfl, rfl, by decide +kernel, rfl, by decide +kernel, by decide +kernel⟩
/-! ### _law_well -/
def l_well (a_script : (List Int)) (a_k : Int) : Res (List Int) :=
  (l_cell_at a_script a_k).bind fun x1 => .ok ([x1, (x1 % 2147483647), 0] : List Int)
def sp__law_well (K : PySem.W.Frag) : Sp := fun vs H Q _ => ∃ (B : Hp) (v_script : V) (a_script : (List Int)) (a_k : Int), Ex B H ∧ vs = [v_script, .int a_k] ∧ Bor K B H [] v_script (a_script.map enc) ∧ Post (l_well a_script a_k) (fun r => RetF K [] B H (r.map enc) Q) (fun _ => False)
abbrev s__law_well : Stmt := top 27
theorem sc__law_well : FnScope ["_law_script", "_law_k", "_law_cell"] ["_law_script", "_law_k"] (defScope s__law_well) := ⟨rfl, rfl, rfl, by decide +kernel, rfl, by decide +kernel, by decide +kernel⟩
/-! ### _law_draw -/
def l_draw (a_well_here : (List Int)) (a_many : Int) : Res (Int × (List Int)) :=
  (ixR a_well_here 0).bind fun x5 => (if (decide (1000000000000000000 ≤ x5)) = true then (ixR a_well_here 0).bind fun x13 => guardR (0 < a_many) <| lt ((x13 % a_many) : Int) fun x17 => (ixR a_well_here 0).bind fun x22 => guardR (CDivW x22 a_many) <| (setR a_well_here 0 (x22 / a_many)).bind fun x26 => .ok (x17, x26) else (ixR a_well_here 2).bind fun x35 => (setR a_well_here 2 (x35 + 1)).bind fun x39 => (ixR x39 1).bind fun x48 => (ixR x39 2).bind fun x56 => lt (((((x48 + (7919 * x56)) + 1) * 48271) % 2147483647) : Int) fun x60 => guardR (CMulW x60 ((x60 / 1009) + 69621)) <| lt (((x60 * ((x60 / 1009) + 69621)) % 2147483647) : Int) fun x61 => guardR (CMulW x61 ((x61 / 2003) + 40692)) <| guardR (0 < a_many) <| .ok ((((x61 * ((x61 / 2003) + 40692)) % 2147483399) % a_many), x39))
def sp__law_draw (K : PySem.W.Frag) : Sp := fun vs H Q _ => ∃ (B : Hp) (p_well_here : Addr) (a_well_here : (List Int)) (a_many : Int), Ex B H ∧ vs = [.ref p_well_here, .int a_many] ∧ Mu K B H p_well_here (a_well_here.map enc) ∧ Post (l_draw a_well_here a_many) (fun r => RetM K p_well_here B H (enc r.1) (r.2.map enc) Q) (fun _ => False)
abbrev s__law_draw : Stmt := top 28
theorem sc__law_draw : FnScope ["_law_well_here", "_law_many", "_law_found", "_law_number"] ["_law_well_here", "_law_many"] (defScope s__law_draw) := ⟨rfl, rfl, rfl, by decide +kernel, rfl, by decide +kernel, by decide +kernel⟩
/-! ### _law_whole -/
def l_whole (a_thing_here : D) : Res Bool :=
  (if (isA "int" a_thing_here) = true then .ok (!(isA "bool" a_thing_here)) else .ok false)
def sp__law_whole (K : PySem.W.Frag) : Sp := fun vs H Q _ => ∃ (B : Hp) (v_thing_here : V) (a_thing_here : D), Ex B H ∧ vs = [v_thing_here] ∧ Rep K B v_thing_here (enc a_thing_here) ∧ Post (l_whole a_thing_here) (fun r => Ret K [] B H (enc r) Q) (fun _ => False)
abbrev s__law_whole : Stmt := top 29
theorem sc__law_whole : FnScope ["_law_thing_here"] ["_law_thing_here"] (defScope s__law_whole) := ⟨rfl, rfl, rfl, by decide +kernel, rfl, by decide +kernel, by decide +kernel⟩
/-! ### _law_rule -/
def l_rule (a_well_here : (List Int)) : Res (D × (List Int)) :=
  (l_draw a_well_here 3).bind fun x1 => (if (decide (x1.1 = 0)) = true then (l_draw x1.2 256).bind fun x7 => .ok ((enc (⟨("plain" : Str), x7.1⟩ : (Tp2 Str Int))), x7.2) else (l_draw x1.2 200).bind fun x18 => lt ((1 + x18.1) : Int) fun x24 => (l_draw x18.2 16).bind fun x25 => (if (decide (x1.1 = 1)) = true then (l_draw x25.2 256).bind fun x31 => .ok ((enc (⟨("moved" : Str), x24, x25.1, x31.1⟩ : (Tp4 Str Int Int Int))), x31.2) else (l_draw x25.2 200).bind fun x42 => (l_draw x42.2 16).bind fun x48 => .ok ((enc (⟨("mixed" : Str), x24, x25.1, (1 + x42.1), x48.1⟩ : (Tp5 Str Int Int Int Int))), x48.2)))
def sp__law_rule (K : PySem.W.Frag) : Sp := fun vs H Q _ => ∃ (B : Hp) (p_well_here : Addr) (a_well_here : (List Int)), Ex B H ∧ vs = [.ref p_well_here] ∧ Mu K B H p_well_here (a_well_here.map enc) ∧ Post (l_rule a_well_here) (fun r => RetM K p_well_here B H (enc r.1) (r.2.map enc) Q) (fun _ => False)
abbrev s__law_rule : Stmt := top 30
theorem sc__law_rule : FnScope ["_law_well_here", "_law_way", "_law_back", "_law_cell"] ["_law_well_here"] (defScope s__law_rule) := ⟨rfl, rfl, rfl, by decide +kernel, rfl, by decide +kernel, by decide +kernel⟩
/-! ### _law_leaf -/
def l_leaf (a_well_here : (List Int)) : Res (D × (List Int)) :=
  (l_draw a_well_here 3).bind fun x1 => (l_draw x1.2 16).bind fun x7 => lt ((1 + x7.1) : Int) fun x13 => ((l_draw x7.2 8).bind fun x17 => (if (decide (x17.1 = 0)) = true then .ok (17, x17.2) else .ok (x13, x17.2)) : Res (Int × (List Int))).bind fun a23 => (l_draw a23.2 (1000000000 + 1)).bind fun x27 => (l_draw x27.2 1000000000).bind fun x33 => lt ((1 + x33.1) : Int) fun x39 => (if (decide (x1.1 = 0)) = true then guardR (-(2 ^ 62) ≤ (a23.1 : Int)) <| (compR (rngI 0 a23.1) (x33.2 : (List Int)) (fun x44 (a48 : (List Int)) => (l_draw a48 256).bind fun x61 => .ok (some x61.1, x61.2))).bind <| un2 fun acc47 a48 => .ok ((enc (⟨("full" : Str), x27.1, x39, (.tup (acc47.map enc) : D)⟩ : (Tp4 Str Int Int D))), a48) else (if (decide (x1.1 = 1)) = true then (l_draw x33.2 200).bind fun x89 => .ok ((enc (⟨("still" : Str), x27.1, x39, (1 + x89.1)⟩ : (Tp4 Str Int Int Int))), x89.2) else guardR (-(2 ^ 62) ≤ (a23.1 : Int)) <| (compR (rngI 0 a23.1) (x33.2 : (List Int)) (fun x104 (a108 : (List Int)) => (l_rule a108).bind fun x121 => .ok (some x121.1, x121.2))).bind <| un2 fun acc107 a108 => .ok ((enc (⟨("woven" : Str), x27.1, x39, (.tup (acc107.map enc) : D)⟩ : (Tp4 Str Int Int D))), a108)))
def sp__law_leaf (K : PySem.W.Frag) : Sp := fun vs H Q _ => ∃ (B : Hp) (p_well_here : Addr) (a_well_here : (List Int)), Ex B H ∧ vs = [.ref p_well_here] ∧ Mu K B H p_well_here (a_well_here.map enc) ∧ Post (l_leaf a_well_here) (fun r => RetM K p_well_here B H (enc r.1) (r.2.map enc) Q) (fun _ => False)
abbrev s__law_leaf : Stmt := top 31
theorem sc__law_leaf : FnScope ["_law_well_here", "_law_way", "_law_wide", "_law_begin", "_law_span", "_law_k"] ["_law_well_here"] (defScope s__law_leaf) := ⟨rfl, rfl, rfl, by decide +kernel, rfl, by decide +kernel, by decide +kernel⟩
/-! ### _law_odd_number -/
def l_odd_number (a_well_here : (List Int)) : Res (D × (List Int)) :=
  (l_draw a_well_here 16).bind fun x1 => (if (decide (x1.1 < 15)) = true then (ixR ([(enc ((-1) : Int)), (enc (0 : Int)), (enc (16 : Int)), (enc (200 : Int)), (enc (201 : Int)), (enc (255 : Int)), (enc (256 : Int)), (enc true), (enc false), (enc ()), (enc ("7" : Str)), (enc (⟨7⟩ : (Tp1 Int))), (enc (1000000000 : Int)), (enc ((1000000000 + 1) : Int)), (enc (15 : Int))] : List D) x1.1).bind fun x21 => .ok (x21, x1.2) else (l_draw x1.2 (2 * 1000000000)).bind fun x25 => .ok ((enc ((257 + x25.1) : Int)), x25.2))
def sp__law_odd_number (K : PySem.W.Frag) : Sp := fun vs H Q _ => ∃ (B : Hp) (p_well_here : Addr) (a_well_here : (List Int)), Ex B H ∧ vs = [.ref p_well_here] ∧ Mu K B H p_well_here (a_well_here.map enc) ∧ Post (l_odd_number a_well_here) (fun r => RetM K p_well_here B H (enc r.1) (r.2.map enc) Q) (fun _ => False)
abbrev s__law_odd_number : Stmt := top 32
theorem sc__law_odd_number : FnScope ["_law_well_here", "_law_way", "_law_some"] ["_law_well_here"] (defScope s__law_odd_number) := ⟨rfl, rfl, rfl, by decide +kernel, rfl, by decide +kernel, by decide +kernel⟩
/-! ### _law_odd_part -/
def l_odd_part (a_well_here : (List Int)) : Res (D × (List Int)) :=
  (l_draw a_well_here 10).bind fun x1 => (if (decide (x1.1 < 9)) = true then (ixR ([(enc ("full" : Str)), (enc ("still" : Str)), (enc ("woven" : Str)), (enc ("Full" : Str)), (.tup [] : D), (enc ([1] : List Int)), (enc (⟨("plain" : Str), 256⟩ : (Tp2 Str Int))), (enc (⟨(⟨("plain" : Str), 7⟩ : (Tp2 Str Int))⟩ : (Tp1 (Tp2 Str Int)))), (enc (⟨("moved" : Str), 1, 0, 0⟩ : (Tp4 Str Int Int Int)))] : List D) x1.1).bind fun x46 => .ok (x46, x1.2) else (l_odd_number x1.2).bind fun x50 => .ok (x50.1, x50.2))
def sp__law_odd_part (K : PySem.W.Frag) : Sp := fun vs H Q _ => ∃ (B : Hp) (p_well_here : Addr) (a_well_here : (List Int)), Ex B H ∧ vs = [.ref p_well_here] ∧ Mu K B H p_well_here (a_well_here.map enc) ∧ Post (l_odd_part a_well_here) (fun r => RetM K p_well_here B H (enc r.1) (r.2.map enc) Q) (fun _ => False)
abbrev s__law_odd_part : Stmt := top 33
theorem sc__law_odd_part : FnScope ["_law_well_here", "_law_way", "_law_some"] ["_law_well_here"] (defScope s__law_odd_part) := ⟨rfl, rfl, rfl, by decide +kernel, rfl, by decide +kernel, by decide +kernel⟩
/-! ### _law_changed -/
def l_changed_r : Nat → (List Int) → D → Res (D × (List Int))
  | 0, _, _ => .stuck
  | nR + 1, a_well_here, a_row =>
  (l_draw a_well_here 7).bind fun x1 => (l_draw x1.2 60).bind fun x7 => (if (decide (x1.1 = 0)) = true then (asT a_row).bind fun l13 => guardR (0 < ((l13.length : Int) + 1)) <| lt ((x7.1 % ((l13.length : Int) + 1)) : Int) fun x20 => (asT a_row).bind fun l21 => (l_odd_number x7.2).bind fun x33 => (asT (.tup ((cutL l21 none (some x20)).map enc) : D)).bind fun l44 => (asT (enc (⟨x33.1⟩ : (Tp1 D)))).bind fun l51 => guardR (l44.length + l51.length ≤ 1000000) <| (asT a_row).bind fun l63 => (asT (.tup ((l44 ++ l51).map enc) : D)).bind fun l75 => (asT (.tup ((cutL l63 (some x20) none).map enc) : D)).bind fun l82 => guardR (l75.length + l82.length ≤ 1000000) <| .ok ((.tup ((l75 ++ l82).map enc) : D), x33.2) else guardR (okEq a_row (.tup [] : D)) <| (if (eqD a_row (.tup [] : D)) = true then .ok ((enc (⟨(.tup [] : D)⟩ : (Tp1 D))), x7.2) else (asT a_row).bind fun l109 => guardR (0 < (l109.length : Int)) <| lt ((x7.1 % (l109.length : Int)) : Int) fun x116 => (if (decide (x1.1 = 1)) = true then (asT a_row).bind fun l117 => (asT a_row).bind fun l129 => (asT (.tup ((cutL l117 none (some x116)).map enc) : D)).bind fun l141 => (asT (.tup ((cutL l129 (some (x116 + 1)) none).map enc) : D)).bind fun l148 => guardR (l141.length + l148.length ≤ 1000000) <| .ok ((.tup ((l141 ++ l148).map enc) : D), x7.2) else (if (decide (x1.1 = 2)) = true then (asT a_row).bind fun l160 => (l_odd_part x7.2).bind fun x172 => (asT (.tup ((cutL l160 none (some x116)).map enc) : D)).bind fun l183 => (asT (enc (⟨x172.1⟩ : (Tp1 D)))).bind fun l190 => guardR (l183.length + l190.length ≤ 1000000) <| (asT a_row).bind fun l202 => (asT (.tup ((l183 ++ l190).map enc) : D)).bind fun l214 => (asT (.tup ((cutL l202 (some (x116 + 1)) none).map enc) : D)).bind fun l221 => guardR (l214.length + l221.length ≤ 1000000) <| .ok ((.tup ((l214 ++ l221).map enc) : D), x172.2) else (asT a_row).bind fun l233 => (ixR l233 x116).bind fun x240 => (if (isA "tuple" x240) = true then (if (decide (x1.1 = 3)) = true then (asT a_row).bind fun l244 => (asT a_row).bind fun l256 => (ixR l256 x116).bind fun x263 => (asT x263).bind fun l267 => (asT (.tup ((cutL l244 none (some x116)).map enc) : D)).bind fun l284 => (asT (enc (⟨l267⟩ : (Tp1 (List D))))).bind fun l291 => guardR (l284.length + l291.length ≤ 1000000) <| (asT a_row).bind fun l303 => (asT (.tup ((l284 ++ l291).map enc) : D)).bind fun l315 => (asT (.tup ((cutL l303 (some (x116 + 1)) none).map enc) : D)).bind fun l322 => guardR (l315.length + l322.length ≤ 1000000) <| .ok ((.tup ((l315 ++ l322).map enc) : D), x7.2) else (asT a_row).bind fun l334 => (asT a_row).bind fun l346 => (ixR l346 x116).bind fun x353 => (l_changed_r nR x7.2 x353).bind fun x357 => (asT (.tup ((cutL l334 none (some x116)).map enc) : D)).bind fun l368 => (asT (enc (⟨x357.1⟩ : (Tp1 D)))).bind fun l375 => guardR (l368.length + l375.length ≤ 1000000) <| (asT a_row).bind fun l387 => (asT (.tup ((l368 ++ l375).map enc) : D)).bind fun l399 => (asT (.tup ((cutL l387 (some (x116 + 1)) none).map enc) : D)).bind fun l406 => guardR (l399.length + l406.length ≤ 1000000) <| .ok ((.tup ((l399 ++ l406).map enc) : D), x357.2)) else (asT a_row).bind fun l418 => (l_odd_number x7.2).bind fun x430 => (asT (.tup ((cutL l418 none (some x116)).map enc) : D)).bind fun l441 => (asT (enc (⟨x430.1⟩ : (Tp1 D)))).bind fun l448 => guardR (l441.length + l448.length ≤ 1000000) <| (asT a_row).bind fun l460 => (asT (.tup ((l441 ++ l448).map enc) : D)).bind fun l472 => (asT (.tup ((cutL l460 (some (x116 + 1)) none).map enc) : D)).bind fun l479 => guardR (l472.length + l479.length ≤ 1000000) <| .ok ((.tup ((l472 ++ l479).map enc) : D), x430.2))))))
def l_changed (a_well_here : (List Int)) (a_row : D) : Res (D × (List Int)) := l_changed_r 9 a_well_here a_row
def sp__law_changed_r (nR : Nat) (K : PySem.W.Frag) : Sp := fun vs H Q _ => ∃ (B : Hp) (p_well_here : Addr) (a_well_here : (List Int)) (v_row : V) (a_row : D), Ex B H ∧ vs = [.ref p_well_here, v_row] ∧ Mu K B H p_well_here (a_well_here.map enc) ∧ Rep K B v_row (enc a_row) ∧ Post (l_changed_r nR a_well_here a_row) (fun r => RetM K p_well_here B H (enc r.1) (r.2.map enc) Q) (fun _ => False)
def sp__law_changed (K : PySem.W.Frag) : Sp := fun vs H Q _ => ∃ (B : Hp) (p_well_here : Addr) (a_well_here : (List Int)) (v_row : V) (a_row : D), Ex B H ∧ vs = [.ref p_well_here, v_row] ∧ Mu K B H p_well_here (a_well_here.map enc) ∧ Rep K B v_row (enc a_row) ∧ Post (l_changed a_well_here a_row) (fun r => RetM K p_well_here B H (enc r.1) (r.2.map enc) Q) (fun _ => False)
abbrev s__law_changed : Stmt := top 34
theorem sc__law_changed : FnScope ["_law_well_here", "_law_row", "_law_way", "_law_place", "_law_at"] ["_law_well_here", "_law_row"] (defScope s__law_changed) := ⟨rfl, rfl, rfl, by decide +kernel, rfl, by decide +kernel, by decide +kernel⟩
/-! ### _law_thing -/
def l_thing (a_well_here : (List Int)) (a_row : D) : Res (D × (List Int)) :=
  (l_draw a_well_here 12).bind fun x1 => (if (decide (x1.1 < 10)) = true then (ixR ([(enc ()), (enc (5 : Int)), (enc ("full" : Str)), (enc true), (.dic [] : D), (enc ("" : Str)), (enc ([a_row] : List D)), (.dic [(.inr ("full" : Str), a_row)] : D), (enc (⟨a_row⟩ : (Tp1 D))), (enc (⟨(.tup [] : D), (.tup [] : D), (.tup [] : D), (.tup [] : D)⟩ : (Tp4 D D D D)))] : List D) x1.1).bind fun x61 => .ok (x61, x1.2) else (asT a_row).bind fun l65 => .ok ((enc l65), x1.2))
def sp__law_thing (K : PySem.W.Frag) : Sp := fun vs H Q _ => ∃ (B : Hp) (p_well_here : Addr) (a_well_here : (List Int)) (v_row : V) (a_row : D), Ex B H ∧ vs = [.ref p_well_here, v_row] ∧ Mu K B H p_well_here (a_well_here.map enc) ∧ Rep K B v_row (enc a_row) ∧ Post (l_thing a_well_here a_row) (fun r => RetM K p_well_here B H (enc r.1) (r.2.map enc) Q) (fun _ => False)
abbrev s__law_thing : Stmt := top 35
theorem sc__law_thing : FnScope ["_law_well_here", "_law_row", "_law_way", "_law_some"] ["_law_well_here", "_law_row"] (defScope s__law_thing) := ⟨rfl, rfl, rfl, by decide +kernel, rfl, by decide +kernel, by decide +kernel⟩
/-! ### _law_within -/
def l_within (a_thing_here : D) (a_low : Int) (a_high : Int) : Res Bool :=
  (l_whole a_thing_here).bind fun x1 => (if x1 = true then (asI a_thing_here).bind fun i7 => (if (decide (a_low ≤ i7)) = true then .ok (decide (i7 ≤ a_high)) else .ok false) else .ok false)
def sp__law_within (K : PySem.W.Frag) : Sp := fun vs H Q _ => ∃ (B : Hp) (v_thing_here : V) (a_thing_here : D) (a_low : Int) (a_high : Int), Ex B H ∧ vs = [v_thing_here, .int a_low, .int a_high] ∧ Rep K B v_thing_here (enc a_thing_here) ∧ Post (l_within a_thing_here a_low a_high) (fun r => Ret K [] B H (enc r) Q) (fun _ => False)
abbrev s__law_within : Stmt := top 36
theorem sc__law_within : FnScope ["_law_thing_here", "_law_low", "_law_high"] ["_law_thing_here", "_law_low", "_law_high"] (defScope s__law_within) := ⟨rfl, rfl, rfl, by decide +kernel, rfl, by decide +kernel, by decide +kernel⟩
/-! ### _law_is_rule -/
def l_is_rule (a_thing_here : D) : Res Bool :=
  (if (isA "tuple" a_thing_here) = true then (asT a_thing_here).bind fun l1 => (if (decide ((l1.length : Int) = 0)) = true then .ok false else (asT a_thing_here).bind fun l8 => (ixR l8 0).bind fun x15 => (if (isA "str" x15) = true then (asT a_thing_here).bind fun l19 => (ixR l19 0).bind fun x26 => guardR (okEq x26 (enc ("plain" : Str))) <| (if (eqD x26 (enc ("plain" : Str))) = true then (asT a_thing_here).bind fun l30 => (if (decide ((l30.length : Int) = 2)) = true then (asT a_thing_here).bind fun l37 => (ixR l37 1).bind fun x44 => (l_within x44 0 255).bind fun x48 => .ok x48 else .ok false) else ((asT a_thing_here).bind fun l57 => (ixR l57 0).bind fun x64 => guardR (okEq x64 (enc ("moved" : Str))) <| (if (!(eqD x64 (enc ("moved" : Str)))) = true then (asT a_thing_here).bind fun l68 => (ixR l68 0).bind fun x75 => guardR (okEq x75 (enc ("mixed" : Str))) <| .ok (!(eqD x75 (enc ("mixed" : Str)))) else .ok false) : Res Bool).bind fun b79 => (if b79 = true then .ok false else (asT a_thing_here).bind fun l83 => (if (decide ((l83.length : Int) < 4)) = true then .ok false else (asT a_thing_here).bind fun l90 => (ixR l90 1).bind fun x97 => (l_within x97 1 200).bind fun x101 => (if x101 = true then (asT a_thing_here).bind fun l107 => (ixR l107 2).bind fun x114 => (l_within x114 0 15).bind fun x118 => (if x118 = true then (asT a_thing_here).bind fun l124 => (ixR l124 0).bind fun x131 => guardR (okEq x131 (enc ("moved" : Str))) <| (if (eqD x131 (enc ("moved" : Str))) = true then (asT a_thing_here).bind fun l135 => (if (decide ((l135.length : Int) = 4)) = true then (asT a_thing_here).bind fun l142 => (ixR l142 3).bind fun x149 => (l_within x149 0 255).bind fun x153 => .ok x153 else .ok false) else (asT a_thing_here).bind fun l159 => (if (decide ((l159.length : Int) = 5)) = true then (asT a_thing_here).bind fun l166 => (ixR l166 3).bind fun x173 => (l_within x173 1 200).bind fun x177 => (if x177 = true then (asT a_thing_here).bind fun l183 => (ixR l183 4).bind fun x190 => (l_within x190 0 15).bind fun x194 => .ok x194 else .ok false) else .ok false)) else .ok false) else .ok false)))) else .ok false)) else .ok false)
def sp__law_is_rule (K : PySem.W.Frag) : Sp := fun vs H Q _ => ∃ (B : Hp) (v_thing_here : V) (a_thing_here : D), Ex B H ∧ vs = [v_thing_here] ∧ Rep K B v_thing_here (enc a_thing_here) ∧ Post (l_is_rule a_thing_here) (fun r => Ret K [] B H (enc r) Q) (fun _ => False)
abbrev s__law_is_rule : Stmt := top 37
theorem sc__law_is_rule : FnScope ["_law_thing_here"] ["_law_thing_here"] (defScope s__law_is_rule) := ⟨rfl, rfl, rfl, by decide +kernel, rfl, by decide +kernel, by decide +kernel⟩
/-! ### _law_is_leaf -/
def l_is_leaf (a_thing_here : D) : Res Bool :=
  (if (isA "tuple" a_thing_here) = true then (asT a_thing_here).bind fun l1 => (if (!decide ((l1.length : Int) = 4)) = true then .ok false else (asT a_thing_here).bind fun l8 => (ixR l8 0).bind fun x15 => (if (isA "str" x15) = true then (asT a_thing_here).bind fun l19 => (ixR l19 1).bind fun x26 => (l_within x26 0 1000000000).bind fun x30 => (if x30 = true then (asT a_thing_here).bind fun l36 => (ixR l36 2).bind fun x43 => (l_within x43 1 1000000000).bind fun x47 => (if x47 = true then (asT a_thing_here).bind fun l53 => (ixR l53 0).bind fun x60 => guardR (okEq x60 (enc ("still" : Str))) <| (if (eqD x60 (enc ("still" : Str))) = true then (asT a_thing_here).bind fun l64 => (ixR l64 3).bind fun x71 => (l_within x71 1 200).bind fun x75 => .ok x75 else (asT a_thing_here).bind fun l81 => (ixR l81 3).bind fun x88 => (if (isA "tuple" x88) = true then (asT a_thing_here).bind fun l92 => (ixR l92 3).bind fun x99 => (asT x99).bind fun l103 => (if (decide (1 ≤ (l103.length : Int))) = true then (if (decide ((l103.length : Int) ≤ 16)) = true then (asT a_thing_here).bind fun l110 => (ixR l110 0).bind fun x117 => guardR (okEq x117 (enc ("full" : Str))) <| (if (eqD x117 (enc ("full" : Str))) = true then (asT a_thing_here).bind fun l121 => (ixR l121 3).bind fun x128 => (asT x128).bind fun l132 => (compR (l132) (() : Unit) (fun x142 (a146 : Unit) => (l_within x142 0 255).bind fun x158 => .ok (some x158, ()))).bind <| un2 fun acc145 a146 => .ok (acc145.all id) else (asT a_thing_here).bind fun l176 => (ixR l176 0).bind fun x183 => guardR (okEq x183 (enc ("woven" : Str))) <| (if (eqD x183 (enc ("woven" : Str))) = true then (asT a_thing_here).bind fun l187 => (ixR l187 3).bind fun x194 => (asT x194).bind fun l198 => (compR (l198) (() : Unit) (fun x208 (a212 : Unit) => (l_is_rule x208).bind fun x224 => .ok (some x224, ()))).bind <| un2 fun acc211 a212 => .ok (acc211.all id) else .ok false)) else .ok false) else .ok false) else .ok false)) else .ok false) else .ok false) else .ok false)) else .ok false)
def sp__law_is_leaf (K : PySem.W.Frag) : Sp := fun vs H Q _ => ∃ (B : Hp) (v_thing_here : V) (a_thing_here : D), Ex B H ∧ vs = [v_thing_here] ∧ Rep K B v_thing_here (enc a_thing_here) ∧ Post (l_is_leaf a_thing_here) (fun r => Ret K [] B H (enc r) Q) (fun _ => False)
abbrev s__law_is_leaf : Stmt := top 38
theorem sc__law_is_leaf : FnScope ["_law_thing_here", "_law_one"] ["_law_thing_here"] (defScope s__law_is_leaf) := ⟨rfl, rfl, rfl, by decide +kernel, rfl, by decide +kernel, by decide +kernel⟩
/-! ### Full__told -/
def m_Full__told (s_begin : Int) (s_span : Int) (s_worths : D) : Res D :=
  .ok (enc (⟨("full" : Str), s_begin, s_span, s_worths⟩ : (Tp4 Str Int Int D)))
def sp_Full__told (K : PySem.W.Frag) : Sp := fun vs H Q _ => ∃ (B : Hp) (v_self : V) (s_begin : Int) (s_span : Int) (s_worths : D), Ex B H ∧ vs = [v_self] ∧ Rep K B v_self (enc (K_Leaf.Full s_begin s_span s_worths)) ∧ Post (m_Full__told s_begin s_span s_worths) (fun r => Ret K [] B H (enc r) Q) (fun _ => False)
abbrev s_Full__told : Stmt := inClass (top 18) 1
theorem sc_Full__told : FnScope ["self"] ["self"] (defScope s_Full__told) := ⟨rfl, rfl, rfl, by decide +kernel, rfl, by decide +kernel, by decide +kernel⟩
/-! ### Still__told -/
def m_Still__told (s_begin : Int) (s_span : Int) (s_back : Int) : Res D :=
  .ok (enc (⟨("still" : Str), s_begin, s_span, s_back⟩ : (Tp4 Str Int Int Int)))
def sp_Still__told (K : PySem.W.Frag) : Sp := fun vs H Q _ => ∃ (B : Hp) (v_self : V) (s_begin : Int) (s_span : Int) (s_back : Int), Ex B H ∧ vs = [v_self] ∧ Rep K B v_self (enc (K_Leaf.Still s_begin s_span s_back)) ∧ Post (m_Still__told s_begin s_span s_back) (fun r => Ret K [] B H (enc r) Q) (fun _ => False)
abbrev s_Still__told : Stmt := inClass (top 19) 1
theorem sc_Still__told : FnScope ["self"] ["self"] (defScope s_Still__told) := ⟨rfl, rfl, rfl, by decide +kernel, rfl, by decide +kernel, by decide +kernel⟩
/-! ### Woven__told -/
def m_Woven__told (s_begin : Int) (s_span : Int) (s_rules : D) : Res D :=
  .ok (enc (⟨("woven" : Str), s_begin, s_span, s_rules⟩ : (Tp4 Str Int Int D)))
def sp_Woven__told (K : PySem.W.Frag) : Sp := fun vs H Q _ => ∃ (B : Hp) (v_self : V) (s_begin : Int) (s_span : Int) (s_rules : D), Ex B H ∧ vs = [v_self] ∧ Rep K B v_self (enc (K_Leaf.Woven s_begin s_span s_rules)) ∧ Post (m_Woven__told s_begin s_span s_rules) (fun r => Ret K [] B H (enc r) Q) (fun _ => False)
abbrev s_Woven__told : Stmt := inClass (top 20) 1
theorem sc_Woven__told : FnScope ["self"] ["self"] (defScope s_Woven__told) := ⟨rfl, rfl, rfl, by decide +kernel, rfl, by decide +kernel, by decide +kernel⟩
def m_Leaf__told (x : K_Leaf) : Res D := match x with
  | .Full begin span worths => m_Full__told begin span worths 
  | .Still begin span back => m_Still__told begin span back 
  | .Woven begin span rules => m_Woven__told begin span rules 
def A_Leaf__told (K : PySem.W.Frag) (mg : Str → Option Value) (C_Full C_Still C_Woven : Addr) (C : Addr) (sp : Sp) : Prop := (C = C_Full ∧ sp = sp_Full__told K) ∨ (C = C_Still ∧ sp = sp_Still__told K) ∨ (C = C_Woven ∧ sp = sp_Woven__told K)
theorem disp_Leaf__told {K : PySem.W.Frag} {mg : Str → Option Value} {B H : Hp} {v : V} {x : K_Leaf} {C_Full C_Still C_Woven : Addr} (T_Full : KI K mg "Full" C_Full) (T_Still : KI K mg "Still" C_Still) (T_Woven : KI K mg "Woven" C_Woven) (w : Ex B H) (r : Rep K B v (enc x)) : ∃ a C dx fs sp, v = .ref a ∧ H a = some (.ins C dx fs) ∧ A_Leaf__told K mg C_Full C_Still C_Woven C sp ∧ fs.lookup ("told" : Str) = none ∧ ∀ {B2 H2 : Hp} {Q : VK} {E : XK}, Ex B2 H2 → Rep K B2 v (enc x) → Post (m_Leaf__told x ) (fun r => Ret K [] B2 H2 (enc r) Q) (fun _ => False) → sp (v :: []) H2 Q E := by
  cases x with
  | Full begin span worths =>
    obtain ⟨p, dx, fs, rfl, hp, rf⟩ := r.ins w T_Full.toKC
    exact ⟨p, C_Full, dx, fs, sp_Full__told K, rfl, hp, .inl ⟨rfl, rfl⟩, rf.none (lkN (by decide +kernel) (lkN (by decide +kernel) (lkN (by decide +kernel) lkE))), fun {B2 H2 Q E} w2 r2   P => ⟨B2, _, begin, span, worths, w2, rfl, r2, P⟩⟩
  | Still begin span back =>
    obtain ⟨p, dx, fs, rfl, hp, rf⟩ := r.ins w T_Still.toKC
    exact ⟨p, C_Still, dx, fs, sp_Still__told K, rfl, hp, .inr (.inl ⟨rfl, rfl⟩), rf.none (lkN (by decide +kernel) (lkN (by decide +kernel) (lkN (by decide +kernel) lkE))), fun {B2 H2 Q E} w2 r2   P => ⟨B2, _, begin, span, back, w2, rfl, r2, P⟩⟩
  | Woven begin span rules =>
    obtain ⟨p, dx, fs, rfl, hp, rf⟩ := r.ins w T_Woven.toKC
    exact ⟨p, C_Woven, dx, fs, sp_Woven__told K, rfl, hp, .inr (.inr (⟨rfl, rfl⟩)), rf.none (lkN (by decide +kernel) (lkN (by decide +kernel) (lkN (by decide +kernel) lkE))), fun {B2 H2 Q E} w2 r2   P => ⟨B2, _, begin, span, rules, w2, rfl, r2, P⟩⟩
/-! ### _law_asked -/
def l_asked (a_thing_here : D) : Res Bool :=
  (tryR ((m_leaf_of a_thing_here).bind fun x7 => .ok (.nx ((some x7), false, false)) : Res (Fl ((Option K_Leaf) × Bool × Bool) (Bool))) (fun ⟨ec, _⟩ => guardR (ec ∈ (["NoLeaf"] : List Str)) <| ((if true = true then .ok true else .ok false) : Res (Bool)).bind fun a22 => .ok (.nx (none, a22, false)))).bind (afterR fun a31 => (if a31.2.2 = true then .ok false else (l_is_leaf a_thing_here).bind fun x38 => (if x38 = true then (if (!a31.2.1) = true then (isCR [("Full", true), ("Mixed", false), ("Moved", false), ("Plain", false), ("Still", true), ("Woven", true)] (enc a31.1)).bind fun b44 => (if b44 = true then (someR a31.1).bind fun x46 => (m_Leaf__told x46).bind fun x50 => guardR (okEq x50 a_thing_here) <| .ok (eqD x50 a_thing_here) else .ok false) else .ok false) else .ok a31.2.1)))
def sp__law_asked (K : PySem.W.Frag) : Sp := fun vs H Q _ => ∃ (B : Hp) (v_thing_here : V) (a_thing_here : D), Ex B H ∧ vs = [v_thing_here] ∧ Rep K B v_thing_here (enc a_thing_here) ∧ Post (l_asked a_thing_here) (fun r => Ret K [] B H (enc r) Q) (fun _ => False)
abbrev s__law_asked : Stmt := top 39
theorem sc__law_asked : FnScope ["_law_thing_here", "_law_leaf_here", "_law_refused", "_law_strange", "e"] ["_law_thing_here"] (defScope s__law_asked) := ⟨rfl, rfl, rfl, by decide +kernel, rfl, by decide +kernel, by decide +kernel⟩
/-! ### law -/
def m_law (a_script : (List Int)) : Res Bool :=
  (l_well a_script 0).bind fun x1 => (l_leaf x1).bind fun x12 => (l_well a_script 1).bind fun x18 => (l_draw x18 9).bind fun x29 => (l_draw x29.2 3).bind fun x35 => lt ((decide (x35.1 = 0)) : Bool) fun x41 => (if (decide (x29.1 = 0)) = true then (l_thing x35.2 x12.1).bind fun x42 => (l_asked x42.1).bind fun x48 => (if x48 = true then (l_asked x12.1).bind fun x54 => .ok x54 else .ok false) else (l_changed x35.2 x12.1).bind fun x60 => ((if x41 = true then (l_changed x60.2 x60.1).bind fun x69 => .ok (x69.1, x69.2) else .ok (x60.1, x60.2)) : Res (D × (List Int))).bind fun a75 => (l_asked a75.1).bind fun x81 => (if x81 = true then (l_asked x12.1).bind fun x87 => (if x87 = true then (asT x12.1).bind fun l93 => (l_asked (enc l93)).bind fun x105 => (if x105 = true then (l_asked a75.1).bind fun x111 => .ok x111 else .ok false) else .ok false) else .ok false))
def sp_law (K : PySem.W.Frag) : Sp := fun vs H Q _ => ∃ (B : Hp) (v_script : V) (a_script : (List Int)), Ex B H ∧ vs = [v_script] ∧ Bor K B H [] v_script (a_script.map enc) ∧ Post (m_law a_script) (fun r => Ret K [] B H (enc r) Q) (fun _ => False)
abbrev s_law : Stmt := top 40
theorem sc_law : FnScope ["_law_script", "_law_row", "_law_well_here", "_law_way", "_law_twice", "_law_changed_here"] ["_law_script"] (defScope s_law) := ⟨rfl, rfl, rfl, by decide +kernel, rfl, by decide +kernel, by decide +kernel⟩
section
variable {Pr : Program} {wo : World} {K : PySem.W.Frag} {mg : Str → Option Value} {base : Heap}
theorem ok_is_whole {f : Addr} {fd : FuncData}  (F : Fun K "is_whole" "is_whole" s_is_whole f fd) (bI_isinstance : mg "isinstance" = none) (bI_int : mg "int" = none) (bI_bool : mg "bool" = none) : FnOk Pr wo K mg base CX0 1 f fd ["thing", "low", "high"] (sp_is_whole K) := by
  refine F.ok sc_is_whole (fun vs H Q E h => ?_) (fun cdv A outer s H vs Q E hr h => ?_)
  · obtain ⟨_, _, _, _, _, _, rfl, _⟩ := h; rfl
  · obtain ⟨B, v, d, lo, hi, w, rfl, r, k⟩ := h
    have st := Stp.refl (W := []) w
    refine ⟨_, pss_one (ps_ret (pe_and (pe_callB call_isi (by rfl) bI_isinstance PyProof.Rows.boot_isinstance (pa_cons (pv 0) (pa_cons (pe_bltn (v := .ty "int") (by rfl) bI_int Y.boot_int rfl) pa_nil)))
      (pe_and (pe_not (pe_callB call_isi (by rfl) bI_isinstance PyProof.Rows.boot_isinstance (pa_cons (pv 0) (pa_cons (pe_bltn (v := .ty "bool") (by rfl) bI_bool Y.boot_bool rfl) pa_nil))))
       (pe_one (pe_chain op_le op_le (pv 1) (pv 0) (pv 2)))))), ?_⟩
    refine h_ret (h_and (h_cb (h_cons (h_var rfl (h_cons (h_c (h_nil (isi (t := "int") w r (h_bl ?_)))))))))
    cases d <;> try exact h_iteF (k.ok _ _ _ st (Rep.bl _))
    · refine h_iteT (h_and (h_not (h_cb (h_cons (h_var rfl (h_cons (h_c (h_nil (isi (t := "bool") w r (h_bl (h_bl ?_))))))))))) 
      exact h_iteF (k.ok _ _ _ st (Rep.bl _))
    · cases r
      refine h_iteT (h_and (h_not (h_cb (h_cons (h_var rfl (h_cons (h_c (h_nil (isi (t := "bool") w (Rep.int _) (h_bl (h_bl ?_)))))))))))
      refine h_iteT (h_chain (h_var rfl (h_var rfl (h_ch (fun Q q => h_var rfl q) ?_))))
      exact k.ok _ _ _ st (Rep.bl _)
theorem ok_is_need {f : Addr} {fd : FuncData}  (F : Fun K "is_need" "is_need" s_is_need f fd) {f_is_whole : Addr} {d_is_whole : FuncData} (g_is_whole : mg "is_whole" = some (.ref f_is_whole)) (k_is_whole : PySem.W.keepIn K (.ref f_is_whole) = true) (b_is_whole : L2.Binds K d_is_whole ["thing", "low", "high"] []) (G_is_whole : FnOk Pr wo K mg base CX0 1 f_is_whole d_is_whole ["thing", "low", "high"] (sp_is_whole K)) : FnOk Pr wo K mg base CX0 2 f fd ["back", "cell"] (sp_is_need K) := by
  refine F.ok sc_is_need (fun vs H Q E h => ?_) (fun cdv A outer s H0 vs Q E hr h => ?_)
  · obtain ⟨_, _, _, _, _, _, rfl, _⟩ := h; rfl
  · obtain ⟨B0, v_back, a_back, v_cell, a_cell, w, rfl, r_back, r_cell, P⟩ := h
    have w0 := w
    have hu := hu_of hr
    have hu64 := hu64_of hr
    have hr1 : Room 1 _ := hr.mono (by decide)
    refine ⟨_, (pss_one (ps_ret (pe_and (pe_call G_is_whole hr1 rfl g_is_whole k_is_whole b_is_whole .nil pass0 (pa_cons (pv 0) (pa_cons pe_int (pa_cons pe_int pa_nil)))) (pe_one (pe_call G_is_whole hr1 rfl g_is_whole k_is_whole b_is_whole .nil pass0 (pa_cons (pv 1) (pa_cons pe_int (pa_cons pe_int pa_nil)))))))), ?_⟩
    unfold m_is_need at P
    have st := Stp.refl (W := []) w
    refine h_ret ?_
    refine h_and ?_
    refine h_call ?_
    refine h_cons ?_
    refine h_var rfl ?_
    refine h_cons ?_
    refine h_c ?_
    refine h_cons ?_
    refine h_c ?_
    refine h_nil ?_
    refine ⟨B0, v_back, a_back, 1, 200, w, rfl, (r_back.mono st.ex), (P.bind).mono (fun x1 P => ?_) (fun _ z => z)⟩
    refine fun v5 B2 H3 s4 r6 => ?_
    replace st := st.go s4 go0
    replace w := s4.ok
    cases r6
    refine h_bl ?_
    refine h_ite (fun c1 => ?_) (fun c1 => ?_)
    · replace P := P.iteT c1
      refine h_call ?_
      refine h_cons ?_
      refine h_var rfl ?_
      refine h_cons ?_
      refine h_c ?_
      refine h_cons ?_
      refine h_c ?_
      refine h_nil ?_
      refine ⟨B2, v_cell, a_cell, 0, 15, w, rfl, (r_cell.mono st.ex), (P.bind).mono (fun x7 P => ?_) (fun _ z => z)⟩
      refine fun v11 B8 H9 s10 r12 => ?_
      replace st := st.go s10 go0
      replace w := s10.ok
      cases r12
      exact P.ok _ _ _ st (Rep.bl _)
    · replace P := P.iteF c1
      exact P.ok _ _ _ st (Rep.bl _)
theorem ok_Plain____init__ {f : Addr} {fd : FuncData} (F : Fun K "__init__" "Plain.__init__" s_Plain____init__ f fd) : FnOk Pr wo K mg base CX0 1 f fd ["self", "value"] (spInit K ["worth"]) := by
  refine F.ok sc_Plain____init__ (fun vs H Q E h => ?_) (fun cdv A outer s H vs Q E hr h => ?_)
  · obtain ⟨_, _, _, us, rfl, hl, _⟩ := h
    exact congrArg Nat.succ hl
  · obtain ⟨C, p, dx, us, rfl, hl, hp, hc, lo, k⟩ := h
    match us, hl with
    | [u1], _ =>
      refine ⟨_, (pss_one (ps_fld (pv 0) (pv 1) rfl)), ?_⟩
      have e1 : putF "worth" u1 ([] : List (Str × V)) = ([("worth", u1)] : List (Str × V)) := putE
      have eH : (upd H p (HO.ins C dx (putF "worth" u1 ([] : List (Str × V))))) = upd H p (HO.ins C dx ([("worth", u1)] : List (Str × V))) := by rw [e1]
      have k2 : Q .non (upd H p (HO.ins C dx ([("worth", u1)] : List (Str × V)))) := k
      rw [← eH] at k2
      exact ⟨_, rfl, _, rfl, p, C, dx, ([] : List (Str × V)), rfl, hp, hc, lo.1, (by show 0 < 1000; decide), k2⟩
theorem ok_Moved____init__ {f : Addr} {fd : FuncData} (F : Fun K "__init__" "Moved.__init__" s_Moved____init__ f fd) : FnOk Pr wo K mg base CX0 1 f fd ["self", "back", "cell", "add"] (spInit K ["back", "cell", "add"]) := by
  refine F.ok sc_Moved____init__ (fun vs H Q E h => ?_) (fun cdv A outer s H vs Q E hr h => ?_)
  · obtain ⟨_, _, _, us, rfl, hl, _⟩ := h
    exact congrArg Nat.succ hl
  · obtain ⟨C, p, dx, us, rfl, hl, hp, hc, lo, k⟩ := h
    match us, hl with
    | [u1, u2, u3], _ =>
      refine ⟨_, (pss_cons (ps_fld (pv 0) (pv 1) rfl) (pss_cons (ps_fld (pv 0) (pv 2) rfl) (pss_one (ps_fld (pv 0) (pv 3) rfl)))), ?_⟩
      have e1 : putF "back" u1 ([] : List (Str × V)) = ([("back", u1)] : List (Str × V)) := putE
      have h1 : (upd H p (HO.ins C dx (putF "back" u1 ([] : List (Str × V))))) p = some (HO.ins C dx ([("back", u1)] : List (Str × V))) := by rw [e1]; exact upd_same
      have e2 : putF "cell" u2 ([("back", u1)] : List (Str × V)) = ([("back", u1), ("cell", u2)] : List (Str × V)) := (putS (by decide +kernel) putE)
      have h2 : (upd (upd H p (HO.ins C dx (putF "back" u1 ([] : List (Str × V))))) p (HO.ins C dx (putF "cell" u2 ([("back", u1)] : List (Str × V))))) p = some (HO.ins C dx ([("back", u1), ("cell", u2)] : List (Str × V))) := by rw [e2]; exact upd_same
      have e3 : putF "add" u3 ([("back", u1), ("cell", u2)] : List (Str × V)) = ([("back", u1), ("cell", u2), ("add", u3)] : List (Str × V)) := (putS (by decide +kernel) (putS (by decide +kernel) putE))
      have eH : (upd (upd (upd H p (HO.ins C dx (putF "back" u1 ([] : List (Str × V))))) p (HO.ins C dx (putF "cell" u2 ([("back", u1)] : List (Str × V))))) p (HO.ins C dx (putF "add" u3 ([("back", u1), ("cell", u2)] : List (Str × V))))) = upd H p (HO.ins C dx ([("back", u1), ("cell", u2), ("add", u3)] : List (Str × V))) := by rw [e1, e2, e3, L2.upd_upd, L2.upd_upd]
      have k2 : Q .non (upd H p (HO.ins C dx ([("back", u1), ("cell", u2), ("add", u3)] : List (Str × V)))) := k
      rw [← eH] at k2
      exact ⟨_, rfl, _, rfl, p, C, dx, ([] : List (Str × V)), rfl, hp, hc, lo.1, (by show 0 < 1000; decide), _, rfl, _, rfl, p, C, dx, ([("back", u1)] : List (Str × V)), rfl, h1, hc, lo.2.1, (by show 1 < 1000; decide), _, rfl, _, rfl, p, C, dx, ([("back", u1), ("cell", u2)] : List (Str × V)), rfl, h2, hc, lo.2.2.1, (by show 2 < 1000; decide), k2⟩
theorem ok_Mixed____init__ {f : Addr} {fd : FuncData} (F : Fun K "__init__" "Mixed.__init__" s_Mixed____init__ f fd) : FnOk Pr wo K mg base CX0 1 f fd ["self", "back", "cell", "other_back", "other_cell"] (spInit K ["back", "cell", "other_back", "other_cell"]) := by
  refine F.ok sc_Mixed____init__ (fun vs H Q E h => ?_) (fun cdv A outer s H vs Q E hr h => ?_)
  · obtain ⟨_, _, _, us, rfl, hl, _⟩ := h
    exact congrArg Nat.succ hl
  · obtain ⟨C, p, dx, us, rfl, hl, hp, hc, lo, k⟩ := h
    match us, hl with
    | [u1, u2, u3, u4], _ =>
      refine ⟨_, (pss_cons (ps_fld (pv 0) (pv 1) rfl) (pss_cons (ps_fld (pv 0) (pv 2) rfl) (pss_cons (ps_fld (pv 0) (pv 3) rfl) (pss_one (ps_fld (pv 0) (pv 4) rfl))))), ?_⟩
      have e1 : putF "back" u1 ([] : List (Str × V)) = ([("back", u1)] : List (Str × V)) := putE
      have h1 : (upd H p (HO.ins C dx (putF "back" u1 ([] : List (Str × V))))) p = some (HO.ins C dx ([("back", u1)] : List (Str × V))) := by rw [e1]; exact upd_same
      have e2 : putF "cell" u2 ([("back", u1)] : List (Str × V)) = ([("back", u1), ("cell", u2)] : List (Str × V)) := (putS (by decide +kernel) putE)
      have h2 : (upd (upd H p (HO.ins C dx (putF "back" u1 ([] : List (Str × V))))) p (HO.ins C dx (putF "cell" u2 ([("back", u1)] : List (Str × V))))) p = some (HO.ins C dx ([("back", u1), ("cell", u2)] : List (Str × V))) := by rw [e2]; exact upd_same
      have e3 : putF "other_back" u3 ([("back", u1), ("cell", u2)] : List (Str × V)) = ([("back", u1), ("cell", u2), ("other_back", u3)] : List (Str × V)) := (putS (by decide +kernel) (putS (by decide +kernel) putE))
      have h3 : (upd (upd (upd H p (HO.ins C dx (putF "back" u1 ([] : List (Str × V))))) p (HO.ins C dx (putF "cell" u2 ([("back", u1)] : List (Str × V))))) p (HO.ins C dx (putF "other_back" u3 ([("back", u1), ("cell", u2)] : List (Str × V))))) p = some (HO.ins C dx ([("back", u1), ("cell", u2), ("other_back", u3)] : List (Str × V))) := by rw [e3]; exact upd_same
      have e4 : putF "other_cell" u4 ([("back", u1), ("cell", u2), ("other_back", u3)] : List (Str × V)) = ([("back", u1), ("cell", u2), ("other_back", u3), ("other_cell", u4)] : List (Str × V)) := (putS (by decide +kernel) (putS (by decide +kernel) (putS (by decide +kernel) putE)))
      have eH : (upd (upd (upd (upd H p (HO.ins C dx (putF "back" u1 ([] : List (Str × V))))) p (HO.ins C dx (putF "cell" u2 ([("back", u1)] : List (Str × V))))) p (HO.ins C dx (putF "other_back" u3 ([("back", u1), ("cell", u2)] : List (Str × V))))) p (HO.ins C dx (putF "other_cell" u4 ([("back", u1), ("cell", u2), ("other_back", u3)] : List (Str × V))))) = upd H p (HO.ins C dx ([("back", u1), ("cell", u2), ("other_back", u3), ("other_cell", u4)] : List (Str × V))) := by rw [e1, e2, e3, e4, L2.upd_upd, L2.upd_upd, L2.upd_upd]
      have k2 : Q .non (upd H p (HO.ins C dx ([("back", u1), ("cell", u2), ("other_back", u3), ("other_cell", u4)] : List (Str × V)))) := k
      rw [← eH] at k2
      exact ⟨_, rfl, _, rfl, p, C, dx, ([] : List (Str × V)), rfl, hp, hc, lo.1, (by show 0 < 1000; decide), _, rfl, _, rfl, p, C, dx, ([("back", u1)] : List (Str × V)), rfl, h1, hc, lo.2.1, (by show 1 < 1000; decide), _, rfl, _, rfl, p, C, dx, ([("back", u1), ("cell", u2)] : List (Str × V)), rfl, h2, hc, lo.2.2.1, (by show 2 < 1000; decide), _, rfl, _, rfl, p, C, dx, ([("back", u1), ("cell", u2), ("other_back", u3)] : List (Str × V)), rfl, h3, hc, lo.2.2.2.1, (by show 3 < 1000; decide), k2⟩
theorem ok_rule_of {f : Addr} {fd : FuncData}  (F : Fun K "rule_of" "rule_of" s_rule_of f fd) {C_NoRule : Addr} (T_NoRule : ExcR K mg "NoRule" C_NoRule) {C_Plain : Addr} (T_Plain : KI K mg "Plain" C_Plain) {C_Moved : Addr} (T_Moved : KI K mg "Moved" C_Moved) {C_Mixed : Addr} (T_Mixed : KI K mg "Mixed" C_Mixed) {fi_Plain : Addr} {di_Plain : FuncData} (M_Plain : Mk K C_Plain fi_Plain) (lo_Plain : LaysOk K C_Plain ["worth"]) (bi_Plain : L2.Binds K di_Plain ["self", "value"] []) (Gi_Plain : FnOk Pr wo K mg base CX0 1 fi_Plain di_Plain ["self", "value"] (spInit K ["worth"])) {fi_Moved : Addr} {di_Moved : FuncData} (M_Moved : Mk K C_Moved fi_Moved) (lo_Moved : LaysOk K C_Moved ["back", "cell", "add"]) (bi_Moved : L2.Binds K di_Moved ["self", "back", "cell", "add"] []) (Gi_Moved : FnOk Pr wo K mg base CX0 1 fi_Moved di_Moved ["self", "back", "cell", "add"] (spInit K ["back", "cell", "add"])) {fi_Mixed : Addr} {di_Mixed : FuncData} (M_Mixed : Mk K C_Mixed fi_Mixed) (lo_Mixed : LaysOk K C_Mixed ["back", "cell", "other_back", "other_cell"]) (bi_Mixed : L2.Binds K di_Mixed ["self", "back", "cell", "other_back", "other_cell"] []) (Gi_Mixed : FnOk Pr wo K mg base CX0 1 fi_Mixed di_Mixed ["self", "back", "cell", "other_back", "other_cell"] (spInit K ["back", "cell", "other_back", "other_cell"])) {f_is_whole : Addr} {d_is_whole : FuncData} (g_is_whole : mg "is_whole" = some (.ref f_is_whole)) (k_is_whole : PySem.W.keepIn K (.ref f_is_whole) = true) (b_is_whole : L2.Binds K d_is_whole ["thing", "low", "high"] []) (G_is_whole : FnOk Pr wo K mg base CX0 1 f_is_whole d_is_whole ["thing", "low", "high"] (sp_is_whole K)) {f_is_need : Addr} {d_is_need : FuncData} (g_is_need : mg "is_need" = some (.ref f_is_need)) (k_is_need : PySem.W.keepIn K (.ref f_is_need) = true) (b_is_need : L2.Binds K d_is_need ["back", "cell"] []) (G_is_need : FnOk Pr wo K mg base CX0 2 f_is_need d_is_need ["back", "cell"] (sp_is_need K)) (kb_is_need_0_back_cell : KBinds K d_is_need ["back", "cell"] ["back", "cell"] (fun us ws => match us, ws with | [], [w0, w1] => [w0, w1] | _, _ => []) (fun us ws => match us, ws with | [], [w0, w1] => [w0, w1] | _, _ => [])) (bI_isinstance : mg "isinstance" = none) (bI_tuple : mg "tuple" = none) (bI_len : mg "len" = none) (kb_Moved____init___2_add : KBinds K di_Moved ["self", "back", "cell", "add"] ["add"] (fun us ws => match us, ws with | [u0, u1, u2], [w0] => [u0, u1, u2, w0] | _, _ => []) (fun us ws => match us, ws with | [u0, u1, u2], [w0] => [u0, u1, u2, w0] | _, _ => [])) (kb_Mixed____init___2_other_back_other_cell : KBinds K di_Mixed ["self", "back", "cell", "other_back", "other_cell"] ["other_back", "other_cell"] (fun us ws => match us, ws with | [u0, u1, u2], [w0, w1] => [u0, u1, u2, w0, w1] | _, _ => []) (fun us ws => match us, ws with | [u0, u1, u2], [w0, w1] => [u0, u1, u2, w0, w1] | _, _ => [])) : FnOk Pr wo K mg base (L2.CX Pr wo) 3 f fd ["told"] (sp_rule_of K mg) := by
  refine F.okX sc_rule_of (fun vs H Q E h => ?_) (fun cdv A outer s H0 vs Q E hr h => ?_)
  · obtain ⟨_, _, _, _, rfl, _⟩ := h; rfl
  · obtain ⟨B0, v_told, a_told, w, rfl, r_told, P⟩ := h
    have w0 := w
    have hu := hu_of hr
    have hu64 := hu64_of hr
    have hr1 : Room 1 _ := hr.mono (by decide)
    have hr2 : Room 2 _ := hr.mono (by decide)
    refine ⟨_, (pss_cons (ps_if (PW.pt (pw_or (pt_not (pt_val (pe_callB (r := rIsi K) call_isi (by rfl) bI_isinstance PyProof.Rows.boot_isinstance (pa_cons (pv 0) (pa_cons (pe_bltn (v := .ty "tuple") (by rfl) bI_tuple Y.boot_tuple rfl) pa_nil))))) (pw_or1 (pt_cmpR op_eq (pe_callB (r := rLenY K) cr_len (by rfl) bI_len PySem.boot_len (pa_cons (pv 0) pa_nil)) pe_int (nomark _))))) (pss_one (ps_raise rfl (takes_of rfl rfl rfl rfl) (pmk_own PySem.F.excBase_ValueError T_NoRule.ex T_NoRule.g T_NoRule.kp (raises_own T_NoRule.ec.hs T_NoRule.ty) rfl))) pss_nil)
      (pss_cons (ps_if (PW.pt (pw_and (pt_cmpR (r := rEqD K) (op_eqD hu64) (pe_ix (r := rIxT K) ix_tup (pv 0) pe_int (fun _ _ => rfl)) pe_str (nomark _)) (pw_and (pt_cmpR op_eq (pe_callB (r := rLenY K) cr_len (by rfl) bI_len PySem.boot_len (pa_cons (pv 0) pa_nil)) pe_int (nomark _)) (pw_and1 (pt_val (pe_call G_is_whole hr1 rfl g_is_whole k_is_whole b_is_whole .nil pass0 (pa_cons (pe_ix (r := rIxT K) ix_tup (pv 0) pe_int (fun _ _ => rfl)) (pa_cons pe_int (pa_cons pe_int pa_nil))))))))) (pss_one (ps_ret (pe_make M_Plain Gi_Plain hr2 rfl T_Plain.g bi_Plain .nil pass0 (pa_cons (pe_ix (r := rIxT K) ix_tup (pv 0) pe_int (fun _ _ => rfl)) pa_nil)))) pss_nil)
      (pss_cons (ps_if (PW.pt (pw_and (pt_cmpR (r := rEqD K) (op_eqD hu64) (pe_ix (r := rIxT K) ix_tup (pv 0) pe_int (fun _ _ => rfl)) pe_str (nomark _)) (pw_and (pt_cmpR op_eq (pe_callB (r := rLenY K) cr_len (by rfl) bI_len PySem.boot_len (pa_cons (pv 0) pa_nil)) pe_int (nomark _)) (pw_and1 (pt_val (pe_call G_is_need hr2 rfl g_is_need k_is_need b_is_need .nil pass0 (pa_cons (pe_ix (r := rIxT K) ix_tup (pv 0) pe_int (fun _ _ => rfl)) (pa_cons (pe_ix (r := rIxT K) ix_tup (pv 0) pe_int (fun _ _ => rfl)) pa_nil)))))))) (pss_one (ps_if (pt_val (pe_call G_is_whole hr1 rfl g_is_whole k_is_whole b_is_whole .nil pass0 (pa_cons (pe_ix (r := rIxT K) ix_tup (pv 0) pe_int (fun _ _ => rfl)) (pa_cons pe_int (pa_cons pe_int pa_nil))))) (pss_one (ps_ret (pe_makeB M_Moved Gi_Moved hr2 rfl T_Moved.g kb_Moved____init___2_add pass0 (pa_cons (pe_ix (r := rIxT K) ix_tup (pv 0) pe_int (fun _ _ => rfl)) (pa_cons (pe_ix (r := rIxT K) ix_tup (pv 0) pe_int (fun _ _ => rfl)) pa_nil)) (pk_cons (pe_ix (r := rIxT K) ix_tup (pv 0) pe_int (fun _ _ => rfl)) pk_nil)))) pss_nil)) pss_nil)
      (pss_cons (ps_if (PW.pt (pw_and (pt_cmpR (r := rEqD K) (op_eqD hu64) (pe_ix (r := rIxT K) ix_tup (pv 0) pe_int (fun _ _ => rfl)) pe_str (nomark _)) (pw_and1 (pt_cmpR op_eq (pe_callB (r := rLenY K) cr_len (by rfl) bI_len PySem.boot_len (pa_cons (pv 0) pa_nil)) pe_int (nomark _))))) (pss_one (ps_if (PW.pt (pw_and (pt_val (pe_call G_is_need hr2 rfl g_is_need k_is_need b_is_need .nil pass0 (pa_cons (pe_ix (r := rIxT K) ix_tup (pv 0) pe_int (fun _ _ => rfl)) (pa_cons (pe_ix (r := rIxT K) ix_tup (pv 0) pe_int (fun _ _ => rfl)) pa_nil)))) (pw_and1 (pt_val (pe_callK0 G_is_need hr2 rfl g_is_need k_is_need kb_is_need_0_back_cell pass0 (pk_cons (pe_ix (r := rIxT K) ix_tup (pv 0) pe_int (fun _ _ => rfl)) (pk_cons (pe_ix (r := rIxT K) ix_tup (pv 0) pe_int (fun _ _ => rfl)) pk_nil))))))) (pss_one (ps_ret (pe_makeB M_Mixed Gi_Mixed hr2 rfl T_Mixed.g kb_Mixed____init___2_other_back_other_cell pass0 (pa_cons (pe_ix (r := rIxT K) ix_tup (pv 0) pe_int (fun _ _ => rfl)) (pa_cons (pe_ix (r := rIxT K) ix_tup (pv 0) pe_int (fun _ _ => rfl)) pa_nil)) (pk_cons (pe_ix (r := rIxT K) ix_tup (pv 0) pe_int (fun _ _ => rfl)) (pk_cons (pe_ix (r := rIxT K) ix_tup (pv 0) pe_int (fun _ _ => rfl)) pk_nil))))) pss_nil)) pss_nil)
      (pss_one (ps_raise rfl (takes_of rfl rfl rfl rfl) (pmk_own PySem.F.excBase_ValueError T_NoRule.ex T_NoRule.g T_NoRule.kp (raises_own T_NoRule.ec.hs T_NoRule.ty) rfl))))))), ?_⟩
    unfold m_rule_of at P
    have st := Stp.refl (W := []) w
    refine h_seq <| h_if ?_
    refine h_tor ?_
    refine h_tnot ?_
    refine h_tB ?_
    refine h_cb ?_
    refine h_cons ?_
    refine h_var rfl ?_
    refine h_cons ?_
    refine h_c ?_
    refine h_nil ?_
    refine isi (t := "tuple") w (r_told.mono st.ex) ?_
    refine h_bl ?_
    refine h_iteN (fun c1 => ?_) (fun c1 => ?_)
    · replace P := P.iteF c1
      refine h_iteT ?_
      exact P.err _ _ _ T_NoRule.g st
    · replace P := P.iteT c1
      refine h_test ?_
      refine h_op ?_
      refine h_cb ?_
      refine h_cons ?_
      refine h_var rfl ?_
      refine h_nil ?_
      obtain ⟨l1, hl2, P⟩ := P.asT
      have rc3 := (r_told.mono st.ex)
      rw [hl2] at rc3
      obtain ⟨p4, xs5, rfl, hs6, hr7⟩ := Rep.st w rc3
      refine h_lenTl hs6 hr7 ?_
      refine h_c ?_
      refine h_eqI ?_
      refine h_bl ?_
      refine h_ite (fun c1 => ?_) (fun c1 => ?_)
      · replace P := P.iteT c1
        exact P.err _ _ _ T_NoRule.g st
      · replace P := P.iteF c1
        refine h_next ?_
        refine h_nx ?_
        refine h_seq <| h_if ?_
        have wj9 := w
        have sj8 := Stp.refl (W := []) w
        refine h_condJ P (fun H' => ∃ B', Stp [] B0 H0 B' H') (fun N kk10 P => ?_) ?_
        · skip
          refine h_tand ?_
          refine h_test ?_
          refine h_op ?_
          refine h_op ?_
          refine h_var rfl ?_
          refine h_c ?_
          obtain ⟨l11, hl12, P⟩ := P.asT
          have rc13 := (r_told.mono st.ex)
          rw [hl12] at rc13
          obtain ⟨p14, xs15, hv, hs16, hr17⟩ := Rep.st w rc13
          cases hv
          obtain ⟨x18, hx19, P⟩ := P.ix
          obtain ⟨u20, hu, r21⟩ := RepL.atE hr17 hx19
          refine h_ixT hs16 hu ?_
          refine h_c ?_
          obtain ⟨gd, P⟩ := P.guard
          refine h_eqD (d := x18) (e := (enc ("plain" : Str))) w r21 (Rep.str _) gd ?_
          refine h_bl ?_
          refine h_ite (fun c1 => ?_) (fun c1 => ?_)
          · replace P := P.iteT c1
            refine h_tand ?_
            refine h_test ?_
            refine h_op ?_
            refine h_cb ?_
            refine h_cons ?_
            refine h_var rfl ?_
            refine h_nil ?_
            obtain ⟨l22, hl23, P⟩ := P.asT
            have rc24 := (r_told.mono st.ex)
            rw [hl23] at rc24
            obtain ⟨p25, xs26, hv, hs27, hr28⟩ := Rep.st w rc24
            cases hv
            refine h_lenTl hs27 hr28 ?_
            refine h_c ?_
            refine h_eqI ?_
            refine h_bl ?_
            refine h_ite (fun c1 => ?_) (fun c1 => ?_)
            · replace P := P.iteT c1
              refine h_tB ?_
              refine h_call ?_
              refine h_cons ?_
              refine h_op ?_
              refine h_var rfl ?_
              refine h_c ?_
              obtain ⟨l29, hl30, P⟩ := P.asT
              have rc31 := (r_told.mono st.ex)
              rw [hl30] at rc31
              obtain ⟨p32, xs33, hv, hs34, hr35⟩ := Rep.st w rc31
              cases hv
              obtain ⟨x36, hx37, P⟩ := P.ix
              obtain ⟨u38, hu, r39⟩ := RepL.atE hr35 hx37
              refine h_ixT hs34 hu ?_
              refine h_cons ?_
              refine h_c ?_
              refine h_cons ?_
              refine h_c ?_
              refine h_nil ?_
              refine ⟨B0, u38, x36, 0, 255, w, rfl, r39, (P.bind.noErr).mono (fun x40 P => ?_) (fun _ z => z.elim)⟩
              refine fun v44 B41 H42 s43 r45 => ?_
              replace r39 := r39.mono s43.ex
              replace st := st.go s43 go0
              replace sj8 := sj8.go s43 go0
              replace w := s43.ok
              cases r45
              refine h_bl ?_
              exact kk10 _ _ ⟨_, sj8⟩ P.ok
            · replace P := P.iteF c1
              exact kk10 _ _ ⟨_, sj8⟩ P.ok
          · replace P := P.iteF c1
            exact kk10 _ _ ⟨_, sj8⟩ P.ok
        rintro b46 H48 ⟨B47, s49⟩ P
        replace st := st.go s49 go0
        replace w := s49.ok
        refine h_ite (fun c1 => ?_) (fun c1 => ?_)
        · replace P := P.iteT c1
          refine h_ret ?_
          refine h_makeE ?_
          refine h_cons ?_
          refine h_op ?_
          refine h_var rfl ?_
          refine h_c ?_
          obtain ⟨l50, hl51, P⟩ := P.asT
          have rc52 := (r_told.mono st.ex)
          rw [hl51] at rc52
          obtain ⟨p53, xs54, hv, hs55, hr56⟩ := Rep.st w rc52
          cases hv
          obtain ⟨x57, hx58, P⟩ := P.ix
          obtain ⟨u59, hu, r60⟩ := RepL.atE hr56 hx58
          refine h_ixT hs55 hu ?_
          refine h_nil ?_
          obtain ⟨i61, hi62, P⟩ := P.asI
          have rc63 := r60
          rw [hi62] at rc63
          cases rc63
          refine h_make (us := [.int i61]) (ns := ["worth"]) rfl w T_Plain.toKC lo_Plain (ds := [("worth", enc (i61 : Int))]) (.cons (Rep.int _) .nil) (fun p64 B65 H66 s67 r68 => ?_)
          replace r60 := r60.mono s67.ex
          replace st := st.go s67 go0
          replace w := s67.ok
          replace r68 : Rep K B65 (.ref p64) (enc (K_Rule.Plain i61)) := r68
          exact P.ok _ _ _ st r68
        · replace P := P.iteF c1
          refine h_next ?_
          refine h_nx ?_
          have wj70 := w
          have sj69 := Stp.refl (W := []) w
          refine h_joinF P (fun (a : Unit) σ' H' => ∃ (B' : Hp), Stp [] B47 H48 B' H' ∧ σ' = [some ((.ref p4))]) (fun N Tkr72 kk71 kr72 P => h_if ?_) ?_
          · skip
            have wj74 := w
            have sj73 := Stp.refl (W := []) w
            refine h_condJ P (fun H' => ∃ B', Stp [] B47 H48 B' H') (fun N kk75 P => ?_) ?_
            · skip
              refine h_tand ?_
              refine h_test ?_
              refine h_op ?_
              refine h_op ?_
              refine h_var rfl ?_
              refine h_c ?_
              obtain ⟨l76, hl77, P⟩ := P.asT
              have rc78 := (r_told.mono st.ex)
              rw [hl77] at rc78
              obtain ⟨p79, xs80, hv, hs81, hr82⟩ := Rep.st w rc78
              cases hv
              obtain ⟨x83, hx84, P⟩ := P.ix
              obtain ⟨u85, hu, r86⟩ := RepL.atE hr82 hx84
              refine h_ixT hs81 hu ?_
              refine h_c ?_
              obtain ⟨gd, P⟩ := P.guard
              refine h_eqD (d := x83) (e := (enc ("moved" : Str))) w r86 (Rep.str _) gd ?_
              refine h_bl ?_
              refine h_ite (fun c1 => ?_) (fun c1 => ?_)
              · replace P := P.iteT c1
                refine h_tand ?_
                refine h_test ?_
                refine h_op ?_
                refine h_cb ?_
                refine h_cons ?_
                refine h_var rfl ?_
                refine h_nil ?_
                obtain ⟨l87, hl88, P⟩ := P.asT
                have rc89 := (r_told.mono st.ex)
                rw [hl88] at rc89
                obtain ⟨p90, xs91, hv, hs92, hr93⟩ := Rep.st w rc89
                cases hv
                refine h_lenTl hs92 hr93 ?_
                refine h_c ?_
                refine h_eqI ?_
                refine h_bl ?_
                refine h_ite (fun c1 => ?_) (fun c1 => ?_)
                · replace P := P.iteT c1
                  refine h_tB ?_
                  refine h_call ?_
                  refine h_cons ?_
                  refine h_op ?_
                  refine h_var rfl ?_
                  refine h_c ?_
                  obtain ⟨l94, hl95, P⟩ := P.asT
                  have rc96 := (r_told.mono st.ex)
                  rw [hl95] at rc96
                  obtain ⟨p97, xs98, hv, hs99, hr100⟩ := Rep.st w rc96
                  cases hv
                  obtain ⟨x101, hx102, P⟩ := P.ix
                  obtain ⟨u103, hu, r104⟩ := RepL.atE hr100 hx102
                  refine h_ixT hs99 hu ?_
                  refine h_cons ?_
                  refine h_op ?_
                  refine h_var rfl ?_
                  refine h_c ?_
                  obtain ⟨l105, hl106, P⟩ := P.asT
                  have rc107 := (r_told.mono st.ex)
                  rw [hl106] at rc107
                  obtain ⟨p108, xs109, hv, hs110, hr111⟩ := Rep.st w rc107
                  cases hv
                  obtain ⟨x112, hx113, P⟩ := P.ix
                  obtain ⟨u114, hu, r115⟩ := RepL.atE hr111 hx113
                  refine h_ixT hs110 hu ?_
                  refine h_nil ?_
                  refine ⟨B47, u103, x101, u114, x112, w, rfl, r104, r115, (P.bind.noErr).mono (fun x116 P => ?_) (fun _ z => z.elim)⟩
                  refine fun v120 B117 H118 s119 r121 => ?_
                  replace r104 := r104.mono s119.ex
                  replace r115 := r115.mono s119.ex
                  replace st := st.go s119 go0
                  replace sj69 := sj69.go s119 go0
                  replace sj73 := sj73.go s119 go0
                  replace w := s119.ok
                  cases r121
                  refine h_bl ?_
                  exact kk75 _ _ ⟨_, sj73⟩ P.ok
                · replace P := P.iteF c1
                  exact kk75 _ _ ⟨_, sj73⟩ P.ok
              · replace P := P.iteF c1
                exact kk75 _ _ ⟨_, sj73⟩ P.ok
            rintro b122 H124 ⟨B123, s125⟩ P
            replace st := st.go s125 go0
            replace sj69 := sj69.go s125 go0
            replace w := s125.ok
            refine h_ite (fun c1 => ?_) (fun c1 => ?_)
            · replace P := P.iteT c1
              refine h_if ?_
              refine h_tB ?_
              refine h_call ?_
              refine h_cons ?_
              refine h_op ?_
              refine h_var rfl ?_
              refine h_c ?_
              obtain ⟨l126, hl127, P⟩ := P.asT
              have rc128 := (r_told.mono st.ex)
              rw [hl127] at rc128
              obtain ⟨p129, xs130, hv, hs131, hr132⟩ := Rep.st w rc128
              cases hv
              obtain ⟨x133, hx134, P⟩ := P.ix
              obtain ⟨u135, hu, r136⟩ := RepL.atE hr132 hx134
              refine h_ixT hs131 hu ?_
              refine h_cons ?_
              refine h_c ?_
              refine h_cons ?_
              refine h_c ?_
              refine h_nil ?_
              refine ⟨B123, u135, x133, 0, 255, w, rfl, r136, (P.bind.noErr).mono (fun x137 P => ?_) (fun _ z => z.elim)⟩
              refine fun v141 B138 H139 s140 r142 => ?_
              replace r136 := r136.mono s140.ex
              replace st := st.go s140 go0
              replace sj69 := sj69.go s140 go0
              replace w := s140.ok
              cases r142
              refine h_bl ?_
              refine h_ite (fun c1 => ?_) (fun c1 => ?_)
              · replace P := P.iteT c1
                refine h_ret ?_
                refine h_makeBE ?_
                refine h_cons ?_
                refine h_op ?_
                refine h_var rfl ?_
                refine h_c ?_
                obtain ⟨l143, hl144, P⟩ := P.asT
                have rc145 := (r_told.mono st.ex)
                rw [hl144] at rc145
                obtain ⟨p146, xs147, hv, hs148, hr149⟩ := Rep.st w rc145
                cases hv
                obtain ⟨x150, hx151, P⟩ := P.ix
                obtain ⟨u152, hu, r153⟩ := RepL.atE hr149 hx151
                refine h_ixT hs148 hu ?_
                refine h_cons ?_
                refine h_op ?_
                refine h_var rfl ?_
                refine h_c ?_
                obtain ⟨l154, hl155, P⟩ := P.asT
                have rc156 := (r_told.mono st.ex)
                rw [hl155] at rc156
                obtain ⟨p157, xs158, hv, hs159, hr160⟩ := Rep.st w rc156
                cases hv
                obtain ⟨x161, hx162, P⟩ := P.ix
                obtain ⟨u163, hu, r164⟩ := RepL.atE hr160 hx162
                refine h_ixT hs159 hu ?_
                refine h_nil ?_
                refine h_cons ?_
                refine h_op ?_
                refine h_var rfl ?_
                refine h_c ?_
                obtain ⟨l165, hl166, P⟩ := P.asT
                have rc167 := (r_told.mono st.ex)
                rw [hl166] at rc167
                obtain ⟨p168, xs169, hv, hs170, hr171⟩ := Rep.st w rc167
                cases hv
                obtain ⟨x172, hx173, P⟩ := P.ix
                obtain ⟨u174, hu, r175⟩ := RepL.atE hr171 hx173
                refine h_ixT hs170 hu ?_
                refine h_nil ?_
                obtain ⟨i176, hi177, P⟩ := P.asI
                have rc178 := r153
                rw [hi177] at rc178
                cases rc178
                obtain ⟨i179, hi180, P⟩ := P.asI
                have rc181 := r164
                rw [hi180] at rc181
                cases rc181
                obtain ⟨i182, hi183, P⟩ := P.asI
                have rc184 := r175
                rw [hi183] at rc184
                cases rc184
                refine h_make (us := [.int i176, .int i179, .int i182]) (ns := ["back", "cell", "add"]) rfl w T_Moved.toKC lo_Moved (ds := [("back", enc (i176 : Int)), ("cell", enc (i179 : Int)), ("add", enc (i182 : Int))]) (.cons (Rep.int _) (.cons (Rep.int _) (.cons (Rep.int _) .nil))) (fun p185 B186 H187 s188 r189 => ?_)
                replace r153 := r153.mono s188.ex
                replace r164 := r164.mono s188.ex
                replace r175 := r175.mono s188.ex
                replace st := st.go s188 go0
                replace sj69 := sj69.go s188 go0
                replace w := s188.ok
                replace r189 : Rep K B186 (.ref p185) (enc (K_Rule.Moved i176 i179 i182)) := r189
                exact (kr72 _ P.ok) _ _ _ st r189
              · replace P := P.iteF c1
                refine h_next ?_
                refine h_nx ?_
                exact kk71 () _ _ ⟨_, sj69, rfl⟩ P.ok
            · replace P := P.iteF c1
              refine h_next ?_
              refine h_nx ?_
              exact kk71 () _ _ ⟨_, sj69, rfl⟩ P.ok
          rintro a190 _ H192 ⟨B191, s193, rfl⟩ P
          replace st := st.go s193 go0
          replace w := s193.ok
          have wj195 := w
          have sj194 := Stp.refl (W := []) w
          refine h_joinF P (fun (a : Unit) σ' H' => ∃ (B' : Hp), Stp [] B191 H192 B' H' ∧ σ' = [some ((.ref p4))]) (fun N Tkr197 kk196 kr197 P => h_if ?_) ?_
          · skip
            have wj199 := w
            have sj198 := Stp.refl (W := []) w
            refine h_condJ P (fun H' => ∃ B', Stp [] B191 H192 B' H') (fun N kk200 P => ?_) ?_
            · skip
              refine h_tand ?_
              refine h_test ?_
              refine h_op ?_
              refine h_op ?_
              refine h_var rfl ?_
              refine h_c ?_
              obtain ⟨l201, hl202, P⟩ := P.asT
              have rc203 := (r_told.mono st.ex)
              rw [hl202] at rc203
              obtain ⟨p204, xs205, hv, hs206, hr207⟩ := Rep.st w rc203
              cases hv
              obtain ⟨x208, hx209, P⟩ := P.ix
              obtain ⟨u210, hu, r211⟩ := RepL.atE hr207 hx209
              refine h_ixT hs206 hu ?_
              refine h_c ?_
              obtain ⟨gd, P⟩ := P.guard
              refine h_eqD (d := x208) (e := (enc ("mixed" : Str))) w r211 (Rep.str _) gd ?_
              refine h_bl ?_
              refine h_ite (fun c1 => ?_) (fun c1 => ?_)
              · replace P := P.iteT c1
                refine h_test ?_
                refine h_op ?_
                refine h_cb ?_
                refine h_cons ?_
                refine h_var rfl ?_
                refine h_nil ?_
                obtain ⟨l212, hl213, P⟩ := P.asT
                have rc214 := (r_told.mono st.ex)
                rw [hl213] at rc214
                obtain ⟨p215, xs216, hv, hs217, hr218⟩ := Rep.st w rc214
                cases hv
                refine h_lenTl hs217 hr218 ?_
                refine h_c ?_
                refine h_eqI ?_
                refine h_bl ?_
                exact kk200 _ _ ⟨_, sj198⟩ P.ok
              · replace P := P.iteF c1
                exact kk200 _ _ ⟨_, sj198⟩ P.ok
            rintro b219 H221 ⟨B220, s222⟩ P
            replace st := st.go s222 go0
            replace sj194 := sj194.go s222 go0
            replace w := s222.ok
            refine h_ite (fun c1 => ?_) (fun c1 => ?_)
            · replace P := P.iteT c1
              refine h_if ?_
              have wj224 := w
              have sj223 := Stp.refl (W := []) w
              refine h_condJ P (fun H' => ∃ B', Stp [] B220 H221 B' H') (fun N kk225 P => ?_) ?_
              · skip
                refine h_tand ?_
                refine h_tB ?_
                refine h_call ?_
                refine h_cons ?_
                refine h_op ?_
                refine h_var rfl ?_
                refine h_c ?_
                obtain ⟨l226, hl227, P⟩ := P.asT
                have rc228 := (r_told.mono st.ex)
                rw [hl227] at rc228
                obtain ⟨p229, xs230, hv, hs231, hr232⟩ := Rep.st w rc228
                cases hv
                obtain ⟨x233, hx234, P⟩ := P.ix
                obtain ⟨u235, hu, r236⟩ := RepL.atE hr232 hx234
                refine h_ixT hs231 hu ?_
                refine h_cons ?_
                refine h_op ?_
                refine h_var rfl ?_
                refine h_c ?_
                obtain ⟨l237, hl238, P⟩ := P.asT
                have rc239 := (r_told.mono st.ex)
                rw [hl238] at rc239
                obtain ⟨p240, xs241, hv, hs242, hr243⟩ := Rep.st w rc239
                cases hv
                obtain ⟨x244, hx245, P⟩ := P.ix
                obtain ⟨u246, hu, r247⟩ := RepL.atE hr243 hx245
                refine h_ixT hs242 hu ?_
                refine h_nil ?_
                refine ⟨B220, u235, x233, u246, x244, w, rfl, r236, r247, (P.bind.noErr).mono (fun x248 P => ?_) (fun _ z => z.elim)⟩
                refine fun v252 B249 H250 s251 r253 => ?_
                replace r236 := r236.mono s251.ex
                replace r247 := r247.mono s251.ex
                replace st := st.go s251 go0
                replace sj194 := sj194.go s251 go0
                replace sj223 := sj223.go s251 go0
                replace w := s251.ok
                cases r253
                refine h_bl ?_
                refine h_ite (fun c1 => ?_) (fun c1 => ?_)
                · replace P := P.iteT c1
                  refine h_tB ?_
                  refine h_callK0 ?_
                  refine h_cons ?_
                  refine h_op ?_
                  refine h_var rfl ?_
                  refine h_c ?_
                  obtain ⟨l254, hl255, P⟩ := P.asT
                  have rc256 := (r_told.mono st.ex)
                  rw [hl255] at rc256
                  obtain ⟨p257, xs258, hv, hs259, hr260⟩ := Rep.st w rc256
                  cases hv
                  obtain ⟨x261, hx262, P⟩ := P.ix
                  obtain ⟨u263, hu, r264⟩ := RepL.atE hr260 hx262
                  refine h_ixT hs259 hu ?_
                  refine h_cons ?_
                  refine h_op ?_
                  refine h_var rfl ?_
                  refine h_c ?_
                  obtain ⟨l265, hl266, P⟩ := P.asT
                  have rc267 := (r_told.mono st.ex)
                  rw [hl266] at rc267
                  obtain ⟨p268, xs269, hv, hs270, hr271⟩ := Rep.st w rc267
                  cases hv
                  obtain ⟨x272, hx273, P⟩ := P.ix
                  obtain ⟨u274, hu, r275⟩ := RepL.atE hr271 hx273
                  refine h_ixT hs270 hu ?_
                  refine h_nil ?_
                  refine ⟨B249, u263, x261, u274, x272, w, rfl, r264, r275, (P.bind.noErr).mono (fun x276 P => ?_) (fun _ z => z.elim)⟩
                  refine fun v280 B277 H278 s279 r281 => ?_
                  replace r264 := r264.mono s279.ex
                  replace r275 := r275.mono s279.ex
                  replace st := st.go s279 go0
                  replace sj194 := sj194.go s279 go0
                  replace sj223 := sj223.go s279 go0
                  replace w := s279.ok
                  cases r281
                  refine h_bl ?_
                  exact kk225 _ _ ⟨_, sj223⟩ P.ok
                · replace P := P.iteF c1
                  exact kk225 _ _ ⟨_, sj223⟩ P.ok
              rintro b282 H284 ⟨B283, s285⟩ P
              replace st := st.go s285 go0
              replace sj194 := sj194.go s285 go0
              replace w := s285.ok
              refine h_ite (fun c1 => ?_) (fun c1 => ?_)
              · replace P := P.iteT c1
                refine h_ret ?_
                refine h_makeBE ?_
                refine h_cons ?_
                refine h_op ?_
                refine h_var rfl ?_
                refine h_c ?_
                obtain ⟨l286, hl287, P⟩ := P.asT
                have rc288 := (r_told.mono st.ex)
                rw [hl287] at rc288
                obtain ⟨p289, xs290, hv, hs291, hr292⟩ := Rep.st w rc288
                cases hv
                obtain ⟨x293, hx294, P⟩ := P.ix
                obtain ⟨u295, hu, r296⟩ := RepL.atE hr292 hx294
                refine h_ixT hs291 hu ?_
                refine h_cons ?_
                refine h_op ?_
                refine h_var rfl ?_
                refine h_c ?_
                obtain ⟨l297, hl298, P⟩ := P.asT
                have rc299 := (r_told.mono st.ex)
                rw [hl298] at rc299
                obtain ⟨p300, xs301, hv, hs302, hr303⟩ := Rep.st w rc299
                cases hv
                obtain ⟨x304, hx305, P⟩ := P.ix
                obtain ⟨u306, hu, r307⟩ := RepL.atE hr303 hx305
                refine h_ixT hs302 hu ?_
                refine h_nil ?_
                refine h_cons ?_
                refine h_op ?_
                refine h_var rfl ?_
                refine h_c ?_
                obtain ⟨l308, hl309, P⟩ := P.asT
                have rc310 := (r_told.mono st.ex)
                rw [hl309] at rc310
                obtain ⟨p311, xs312, hv, hs313, hr314⟩ := Rep.st w rc310
                cases hv
                obtain ⟨x315, hx316, P⟩ := P.ix
                obtain ⟨u317, hu, r318⟩ := RepL.atE hr314 hx316
                refine h_ixT hs313 hu ?_
                refine h_cons ?_
                refine h_op ?_
                refine h_var rfl ?_
                refine h_c ?_
                obtain ⟨l319, hl320, P⟩ := P.asT
                have rc321 := (r_told.mono st.ex)
                rw [hl320] at rc321
                obtain ⟨p322, xs323, hv, hs324, hr325⟩ := Rep.st w rc321
                cases hv
                obtain ⟨x326, hx327, P⟩ := P.ix
                obtain ⟨u328, hu, r329⟩ := RepL.atE hr325 hx327
                refine h_ixT hs324 hu ?_
                refine h_nil ?_
                obtain ⟨i330, hi331, P⟩ := P.asI
                have rc332 := r296
                rw [hi331] at rc332
                cases rc332
                obtain ⟨i333, hi334, P⟩ := P.asI
                have rc335 := r307
                rw [hi334] at rc335
                cases rc335
                obtain ⟨i336, hi337, P⟩ := P.asI
                have rc338 := r318
                rw [hi337] at rc338
                cases rc338
                obtain ⟨i339, hi340, P⟩ := P.asI
                have rc341 := r329
                rw [hi340] at rc341
                cases rc341
                refine h_make (us := [.int i330, .int i333, .int i336, .int i339]) (ns := ["back", "cell", "other_back", "other_cell"]) rfl w T_Mixed.toKC lo_Mixed (ds := [("back", enc (i330 : Int)), ("cell", enc (i333 : Int)), ("other_back", enc (i336 : Int)), ("other_cell", enc (i339 : Int))]) (.cons (Rep.int _) (.cons (Rep.int _) (.cons (Rep.int _) (.cons (Rep.int _) .nil)))) (fun p342 B343 H344 s345 r346 => ?_)
                replace r296 := r296.mono s345.ex
                replace r307 := r307.mono s345.ex
                replace r318 := r318.mono s345.ex
                replace r329 := r329.mono s345.ex
                replace st := st.go s345 go0
                replace sj194 := sj194.go s345 go0
                replace w := s345.ok
                replace r346 : Rep K B343 (.ref p342) (enc (K_Rule.Mixed i330 i333 i336 i339)) := r346
                exact (kr197 _ P.ok) _ _ _ st r346
              · replace P := P.iteF c1
                refine h_next ?_
                refine h_nx ?_
                exact kk196 () _ _ ⟨_, sj194, rfl⟩ P.ok
            · replace P := P.iteF c1
              refine h_next ?_
              refine h_nx ?_
              exact kk196 () _ _ ⟨_, sj194, rfl⟩ P.ok
          rintro a347 _ H349 ⟨B348, s350, rfl⟩ P
          replace st := st.go s350 go0
          replace w := s350.ok
          exact P.err _ _ _ T_NoRule.g st
theorem ok_is_value {f : Addr} {fd : FuncData}  (F : Fun K "is_value" "is_value" s_is_value f fd) {f_is_whole : Addr} {d_is_whole : FuncData} (g_is_whole : mg "is_whole" = some (.ref f_is_whole)) (k_is_whole : PySem.W.keepIn K (.ref f_is_whole) = true) (b_is_whole : L2.Binds K d_is_whole ["thing", "low", "high"] []) (G_is_whole : FnOk Pr wo K mg base CX0 1 f_is_whole d_is_whole ["thing", "low", "high"] (sp_is_whole K)) : FnOk Pr wo K mg base CX0 2 f fd ["thing"] (sp_is_value K) := by
  refine F.ok sc_is_value (fun vs H Q E h => ?_) (fun cdv A outer s H0 vs Q E hr h => ?_)
  · obtain ⟨_, _, _, _, rfl, _⟩ := h; rfl
  · obtain ⟨B0, v_thing, a_thing, w, rfl, r_thing, P⟩ := h
    have w0 := w
    have hu := hu_of hr
    have hu64 := hu64_of hr
    have hr1 : Room 1 _ := hr.mono (by decide)
    refine ⟨_, (pss_one (ps_ret (pe_call G_is_whole hr1 rfl g_is_whole k_is_whole b_is_whole .nil pass0 (pa_cons (pv 0) (pa_cons pe_int (pa_cons pe_int pa_nil)))))), ?_⟩
    unfold m_is_value at P
    have st := Stp.refl (W := []) w
    refine h_ret ?_
    refine h_call ?_
    refine h_cons ?_
    refine h_var rfl ?_
    refine h_cons ?_
    refine h_c ?_
    refine h_cons ?_
    refine h_c ?_
    refine h_nil ?_
    refine ⟨B0, v_thing, a_thing, 0, 255, w, rfl, (r_thing.mono st.ex), (P.bind).mono (fun x1 P => ?_) (fun _ z => z)⟩
    refine fun v5 B2 H3 s4 r6 => ?_
    replace st := st.go s4 go0
    replace w := s4.ok
    cases r6
    exact P.ok _ _ _ st (Rep.bl _)
theorem ok_is_rule {f : Addr} {fd : FuncData}  (F : Fun K "is_rule" "is_rule" s_is_rule f fd) {C_NoRule : Addr} (T_NoRule : ExcR K mg "NoRule" C_NoRule) (p_NoRule_NoRule : PySem.W.subIn K (.ref C_NoRule) (.ref C_NoRule) = some true) {f_rule_of : Addr} {d_rule_of : FuncData} (g_rule_of : mg "rule_of" = some (.ref f_rule_of)) (k_rule_of : PySem.W.keepIn K (.ref f_rule_of) = true) (b_rule_of : L2.Binds K d_rule_of ["told"] []) (G_rule_of : FnOk Pr wo K mg base (L2.CX Pr wo) 3 f_rule_of d_rule_of ["told"] (sp_rule_of K mg)) : FnOk Pr wo K mg base CX0 4 f fd ["thing"] (sp_is_rule K) := by
  refine F.ok sc_is_rule (fun vs H Q E h => ?_) (fun cdv A outer s H0 vs Q E hr h => ?_)
  · obtain ⟨_, _, _, _, rfl, _⟩ := h; rfl
  · obtain ⟨B0, v_thing, a_thing, w, rfl, r_thing, P⟩ := h
    have w0 := w
    have hu := hu_of hr
    have hu64 := hu64_of hr
    have hr3 : Room 3 _ := hr.mono (by decide)
    refine ⟨_, (pss_cons (ps_tryO (K := K) (Wout := fun _ _ _ _ => False) rfl rfl (T_NoRule.names rfl (by decide)) takes0 (fun W pn xe tk _ => (pss_one (ps_expr (pe_callS G_rule_of hr3 rfl g_rule_of k_rule_of b_rule_of (fun σ => passAt tk σ) (pa_cons (pv 0) pa_nil))))) (fun a oe cls d pn hz hf => (pss_one (ps_ret pe_bl))))
      (pss_one (ps_ret pe_bl))), ?_⟩
    unfold m_is_rule at P
    have st := Stp.refl (W := []) w
    refine h_seq ?_
    have wj2 := w
    have sj1 := Stp.refl (W := []) w
    refine h_tryJ P (fun (a : Unit) σ' H' => ∃ (B' : Hp), Stp [] B0 H0 B' H' ∧ σ' = [some (v_thing)]) (fun N3 T4 kk5 kr6 P => ?_) ?_
    · refine h_tryO ?_
      refine h_drop ?_
      refine h_callS ?_
      refine h_cons ?_
      refine h_var rfl ?_
      refine h_nil ?_
      refine ⟨B0, v_thing, a_thing, w, rfl, (r_thing.mono st.ex), Post.mono2 P.bind (fun e13 P => ?_) (fun x7 P => ?_)⟩
      · skip
        rintro C17 B14 H15 g s16
        replace st := st.go s16 go0
        replace sj1 := sj1.go s16 go0
        replace w := s16.ok
        obtain ⟨ec, ea⟩ := e13
        have he := P.guard.1
        replace P := P.guard.2
        obtain rfl : ec = "NoRule" := List.mem_singleton.mp he
        obtain rfl : C_NoRule = C17 := Value.ref.inj (Option.some.inj (T_NoRule.g.symm.trans g))
        refine h_wOnly T_NoRule.toExcT p_NoRule_NoRule (fun ax18 haax18 => ?_)
        refine h_ret ?_
        refine h_c ?_
        exact (kr6 _ P.ok) _ _ _ st (Rep.bl _)
      refine fun v11 B8 H9 s10 r12 => ?_
      replace st := st.go s10 go0
      replace sj1 := sj1.go s10 go0
      replace w := s10.ok
      refine h_nx ?_
      exact kk5 () _ _ ⟨_, sj1, rfl⟩ P.ok
    · rintro a19 _ H21 ⟨B20, s22, rfl⟩ P
      replace st := st.go s22 go0
      replace w := s22.ok
      refine h_nx ?_
      refine h_ret ?_
      refine h_c ?_
      exact P.ok _ _ _ st (Rep.bl _)
theorem ok_is_row_of__is_value {f : Addr} {fd : FuncData}  (F : Fun K "is_row_of" "is_row_of" s_is_row_of__is_value f fd) {f_is_value : Addr} {d_is_value : FuncData} (g_is_value : mg "is_value" = some (.ref f_is_value)) (k_is_value : PySem.W.keepIn K (.ref f_is_value) = true) (b_is_value : L2.Binds K d_is_value ["thing"] []) (G_is_value : FnOk Pr wo K mg base CX0 2 f_is_value d_is_value ["thing"] (sp_is_value K)) (bI_all : mg "all" = none) (bI_isinstance : mg "isinstance" = none) (bI_tuple : mg "tuple" = none) (bI_len : mg "len" = none) : FnOk Pr wo K mg base CX0 3 f fd ["thing", "good"] (sp_is_row_of__is_value K f_is_value) := by
  refine F.ok sc_is_row_of__is_value (fun vs H Q E h => ?_) (fun cdv A outer s H0 vs Q E hr h => ?_)
  · obtain ⟨_, _, _, _, rfl, _⟩ := h; rfl
  · obtain ⟨B0, v_thing, a_thing, w, rfl, r_thing, P⟩ := h
    have w0 := w
    have hu := hu_of hr
    have hu64 := hu64_of hr
    have hr2 : Room 2 _ := hr.mono (by decide)
    refine ⟨_, (pss_cons (ps_if (PW.pt (pw_or (pt_not (pt_val (pe_callB (r := rIsi K) call_isi (by rfl) bI_isinstance PyProof.Rows.boot_isinstance (pa_cons (pv 0) (pa_cons (pe_bltn (v := .ty "tuple") (by rfl) bI_tuple Y.boot_tuple rfl) pa_nil))))) (pw_or1 (pt_not (pt_chain op_le op_le pe_int (pe_callB (r := rLenY K) cr_len (by rfl) bI_len PySem.boot_len (pa_cons (pv 0) pa_nil)) pe_int))))) (pss_one (ps_ret pe_bl)) pss_nil)
      (pss_one (ps_ret (pe_callB (r := rAll K) (cr_all rfl) (by rfl) bI_all PyProof.Rows.boot_all (pa_cons (pe_lc (own := [("one", 2)]) rfl sc_is_row_of__is_value.nd (pi_tup (pv 0)) (blkOk_by (N := ["thing", "good", "one"]) (sc := defScope s_is_row_of__is_value) (by decide +kernel)) (fun _ _ _ _ _ => (pg_name (i := 2) sc_is_row_of__is_value.nd rfl (by first | exact Or.inl rfl | exact Or.inr rfl))) (fun _ _ _ _ _ => pts_nil) (fun _ _ _ _ _ => (pe_callLS 1 G_is_value hr2 k_is_value b_is_value .nil (atOf pass0) (pa_cons (pv 2) pa_nil)))) pa_nil))))), ?_⟩
    unfold m_is_row_of__is_value at P
    have st := Stp.refl (W := []) w
    refine h_seq <| h_if ?_
    refine h_tor ?_
    refine h_tnot ?_
    refine h_tB ?_
    refine h_cb ?_
    refine h_cons ?_
    refine h_var rfl ?_
    refine h_cons ?_
    refine h_c ?_
    refine h_nil ?_
    refine isi (t := "tuple") w (r_thing.mono st.ex) ?_
    refine h_bl ?_
    refine h_iteN (fun c1 => ?_) (fun c1 => ?_)
    · replace P := P.iteF c1
      refine h_iteT ?_
      refine h_ret ?_
      refine h_c ?_
      exact P.ok _ _ _ st (Rep.bl _)
    · replace P := P.iteT c1
      refine h_tnot ?_
      refine h_test ?_
      refine h_chain ?_
      refine h_c ?_
      refine h_cb ?_
      refine h_cons ?_
      refine h_var rfl ?_
      refine h_nil ?_
      obtain ⟨l1, hl2, P⟩ := P.asT
      have rc3 := (r_thing.mono st.ex)
      rw [hl2] at rc3
      obtain ⟨p4, xs5, rfl, hs6, hr7⟩ := Rep.st w rc3
      refine h_lenTl hs6 hr7 ?_
      refine h_I0 ?_
      refine h_bl ?_
      refine h_ite (fun c1 => ?_) (fun c1 => ?_)
      · replace P := P.iteT c1
        refine h_c ?_
        refine h_I0 ?_
        refine h_bl ?_
        refine h_iteN (fun c1 => ?_) (fun c1 => ?_)
        · replace P := P.iteF c1
          refine h_ret ?_
          refine h_c ?_
          exact P.ok _ _ _ st (Rep.bl _)
        · replace P := P.iteT c1
          refine h_next ?_
          refine h_nx ?_
          refine h_ret ?_
          refine h_cb ?_
          refine h_cons ?_
          refine h_lcUE ?_
          refine h_var rfl ?_
          obtain ⟨l8, hl9, P⟩ := P.asT
          have rc10 := (r_thing.mono st.ex)
          rw [hl9] at rc10
          obtain ⟨p11, xs12, hv, hb13, hr14⟩ := Rep.stB rc10
          cases hv
          refine h_lcU P (w.t hb13) hr14 (fun Dl (acc : List Bool) (a : Unit) H' => ∃ B', Stp [] B0 H0 B' H' ∧ H0 Dl = none ∧ Mu K B' H' Dl (acc.map enc)) (fun Dl hD => ⟨_, Stp.newM w hD, hD, Mu.new w hD .nil⟩) (fun _ _ _ _ j => ?_) ?_ ?_
          · obtain ⟨B24, s25, hD26, m27⟩ := j
            exact s25.ok.t (s25.ex.t hb13)
          · rintro Dl15 N16 T17 x18 v19 acc21 a22 H23 ⟨B24, s25, hD26, m27⟩ r20 hz28 kk29 kn30 P
            have wj32 := w
            have sj31 := s25
            have n33 := st.nn hD26
            replace st := st.go s25 go0
            replace w := s25.ok
            replace r20 := r20.mono s25.ex
            refine h_gname ?_
            refine h_lcT rfl ?_
            refine h_callLS rfl ?_
            refine h_cons ?_
            refine h_var rfl ?_
            refine h_nil ?_
            refine ⟨B24, v19, x18, w, rfl, r20, (P.bind).mono (fun x34 P => ?_) (fun _ z => z)⟩
            refine fun v38 B35 H36 s37 r39 => ?_
            replace r20 := r20.mono s37.ex
            replace m27 := m27.step s37 nm0
            replace st := st.go s37 go0
            replace sj31 := sj31.go s37 go0
            replace w := s37.ok
            cases r39
            refine h_app (b := x34) w m27 (Rep.bl _) hz28 (fun H40 s41 m27 => ?_)
            replace r20 := r20.mono s41.ex
            replace st := st.go s41 (go1 (.inr n33))
            replace sj31 := sj31.go s41 (go1 (.inr hD26))
            replace w := s41.ok
            exact kk29 x34 () _ ⟨_, sj31, hD26, m27⟩ P.ok
          · rintro Dl15 acc21 a22 H23 ⟨B24, s25, hD26, m27⟩ P
            have n42 := st.nn hD26
            replace st := st.go s25 go0
            replace w := s25.ok
            replace P := P.un2
            obtain ⟨B47, e43, k44, g45, r46⟩ := Mu.keep m27
            replace st := g45 _ _ _ st w0 n42
            replace w := st.ok
            replace r46 : Rep K B47 (.ref Dl15) (enc acc21) := r46
            refine h_nil ?_
            obtain ⟨p48, xs49, hv, hs50, hr51⟩ := Rep.sq w r46
            cases hv
            refine h_all hs50 hr51 ?_
            exact P.ok _ _ _ st (Rep.bl _)
      · replace P := P.iteF c1
        refine h_bl ?_
        refine h_iteNF ?_
        refine h_ret ?_
        refine h_c ?_
        exact P.ok _ _ _ st (Rep.bl _)
theorem ok_is_row_of__is_rule {f : Addr} {fd : FuncData}  (F : Fun K "is_row_of" "is_row_of" s_is_row_of__is_rule f fd) {f_is_rule : Addr} {d_is_rule : FuncData} (g_is_rule : mg "is_rule" = some (.ref f_is_rule)) (k_is_rule : PySem.W.keepIn K (.ref f_is_rule) = true) (b_is_rule : L2.Binds K d_is_rule ["thing"] []) (G_is_rule : FnOk Pr wo K mg base CX0 4 f_is_rule d_is_rule ["thing"] (sp_is_rule K)) (bI_all : mg "all" = none) (bI_isinstance : mg "isinstance" = none) (bI_tuple : mg "tuple" = none) (bI_len : mg "len" = none) : FnOk Pr wo K mg base CX0 5 f fd ["thing", "good"] (sp_is_row_of__is_rule K f_is_rule) := by
  refine F.ok sc_is_row_of__is_rule (fun vs H Q E h => ?_) (fun cdv A outer s H0 vs Q E hr h => ?_)
  · obtain ⟨_, _, _, _, rfl, _⟩ := h; rfl
  · obtain ⟨B0, v_thing, a_thing, w, rfl, r_thing, P⟩ := h
    have w0 := w
    have hu := hu_of hr
    have hu64 := hu64_of hr
    have hr4 : Room 4 _ := hr.mono (by decide)
    refine ⟨_, (pss_cons (ps_if (PW.pt (pw_or (pt_not (pt_val (pe_callB (r := rIsi K) call_isi (by rfl) bI_isinstance PyProof.Rows.boot_isinstance (pa_cons (pv 0) (pa_cons (pe_bltn (v := .ty "tuple") (by rfl) bI_tuple Y.boot_tuple rfl) pa_nil))))) (pw_or1 (pt_not (pt_chain op_le op_le pe_int (pe_callB (r := rLenY K) cr_len (by rfl) bI_len PySem.boot_len (pa_cons (pv 0) pa_nil)) pe_int))))) (pss_one (ps_ret pe_bl)) pss_nil)
      (pss_one (ps_ret (pe_callB (r := rAll K) (cr_all rfl) (by rfl) bI_all PyProof.Rows.boot_all (pa_cons (pe_lc (own := [("one", 2)]) rfl sc_is_row_of__is_rule.nd (pi_tup (pv 0)) (blkOk_by (N := ["thing", "good", "one"]) (sc := defScope s_is_row_of__is_rule) (by decide +kernel)) (fun _ _ _ _ _ => (pg_name (i := 2) sc_is_row_of__is_rule.nd rfl (by first | exact Or.inl rfl | exact Or.inr rfl))) (fun _ _ _ _ _ => pts_nil) (fun _ _ _ _ _ => (pe_callLS 1 G_is_rule hr4 k_is_rule b_is_rule .nil (atOf pass0) (pa_cons (pv 2) pa_nil)))) pa_nil))))), ?_⟩
    unfold m_is_row_of__is_rule at P
    have st := Stp.refl (W := []) w
    refine h_seq <| h_if ?_
    refine h_tor ?_
    refine h_tnot ?_
    refine h_tB ?_
    refine h_cb ?_
    refine h_cons ?_
    refine h_var rfl ?_
    refine h_cons ?_
    refine h_c ?_
    refine h_nil ?_
    refine isi (t := "tuple") w (r_thing.mono st.ex) ?_
    refine h_bl ?_
    refine h_iteN (fun c1 => ?_) (fun c1 => ?_)
    · replace P := P.iteF c1
      refine h_iteT ?_
      refine h_ret ?_
      refine h_c ?_
      exact P.ok _ _ _ st (Rep.bl _)
    · replace P := P.iteT c1
      refine h_tnot ?_
      refine h_test ?_
      refine h_chain ?_
      refine h_c ?_
      refine h_cb ?_
      refine h_cons ?_
      refine h_var rfl ?_
      refine h_nil ?_
      obtain ⟨l1, hl2, P⟩ := P.asT
      have rc3 := (r_thing.mono st.ex)
      rw [hl2] at rc3
      obtain ⟨p4, xs5, rfl, hs6, hr7⟩ := Rep.st w rc3
      refine h_lenTl hs6 hr7 ?_
      refine h_I0 ?_
      refine h_bl ?_
      refine h_ite (fun c1 => ?_) (fun c1 => ?_)
      · replace P := P.iteT c1
        refine h_c ?_
        refine h_I0 ?_
        refine h_bl ?_
        refine h_iteN (fun c1 => ?_) (fun c1 => ?_)
        · replace P := P.iteF c1
          refine h_ret ?_
          refine h_c ?_
          exact P.ok _ _ _ st (Rep.bl _)
        · replace P := P.iteT c1
          refine h_next ?_
          refine h_nx ?_
          refine h_ret ?_
          refine h_cb ?_
          refine h_cons ?_
          refine h_lcUE ?_
          refine h_var rfl ?_
          obtain ⟨l8, hl9, P⟩ := P.asT
          have rc10 := (r_thing.mono st.ex)
          rw [hl9] at rc10
          obtain ⟨p11, xs12, hv, hb13, hr14⟩ := Rep.stB rc10
          cases hv
          refine h_lcU P (w.t hb13) hr14 (fun Dl (acc : List Bool) (a : Unit) H' => ∃ B', Stp [] B0 H0 B' H' ∧ H0 Dl = none ∧ Mu K B' H' Dl (acc.map enc)) (fun Dl hD => ⟨_, Stp.newM w hD, hD, Mu.new w hD .nil⟩) (fun _ _ _ _ j => ?_) ?_ ?_
          · obtain ⟨B24, s25, hD26, m27⟩ := j
            exact s25.ok.t (s25.ex.t hb13)
          · rintro Dl15 N16 T17 x18 v19 acc21 a22 H23 ⟨B24, s25, hD26, m27⟩ r20 hz28 kk29 kn30 P
            have wj32 := w
            have sj31 := s25
            have n33 := st.nn hD26
            replace st := st.go s25 go0
            replace w := s25.ok
            replace r20 := r20.mono s25.ex
            refine h_gname ?_
            refine h_lcT rfl ?_
            refine h_callLS rfl ?_
            refine h_cons ?_
            refine h_var rfl ?_
            refine h_nil ?_
            refine ⟨B24, v19, x18, w, rfl, r20, (P.bind).mono (fun x34 P => ?_) (fun _ z => z)⟩
            refine fun v38 B35 H36 s37 r39 => ?_
            replace r20 := r20.mono s37.ex
            replace m27 := m27.step s37 nm0
            replace st := st.go s37 go0
            replace sj31 := sj31.go s37 go0
            replace w := s37.ok
            cases r39
            refine h_app (b := x34) w m27 (Rep.bl _) hz28 (fun H40 s41 m27 => ?_)
            replace r20 := r20.mono s41.ex
            replace st := st.go s41 (go1 (.inr n33))
            replace sj31 := sj31.go s41 (go1 (.inr hD26))
            replace w := s41.ok
            exact kk29 x34 () _ ⟨_, sj31, hD26, m27⟩ P.ok
          · rintro Dl15 acc21 a22 H23 ⟨B24, s25, hD26, m27⟩ P
            have n42 := st.nn hD26
            replace st := st.go s25 go0
            replace w := s25.ok
            replace P := P.un2
            obtain ⟨B47, e43, k44, g45, r46⟩ := Mu.keep m27
            replace st := g45 _ _ _ st w0 n42
            replace w := st.ok
            replace r46 : Rep K B47 (.ref Dl15) (enc acc21) := r46
            refine h_nil ?_
            obtain ⟨p48, xs49, hv, hs50, hr51⟩ := Rep.sq w r46
            cases hv
            refine h_all hs50 hr51 ?_
            exact P.ok _ _ _ st (Rep.bl _)
      · replace P := P.iteF c1
        refine h_bl ?_
        refine h_iteNF ?_
        refine h_ret ?_
        refine h_c ?_
        exact P.ok _ _ _ st (Rep.bl _)
theorem ok_Leaf____init__ {f : Addr} {fd : FuncData} (F : Fun K "__init__" "Leaf.__init__" s_Leaf____init__ f fd) : FnOk Pr wo K mg base CX0 1 f fd ["self", "begin", "span"] (spInit K ["begin", "span"]) := by
  refine F.ok sc_Leaf____init__ (fun vs H Q E h => ?_) (fun cdv A outer s H vs Q E hr h => ?_)
  · obtain ⟨_, _, _, us, rfl, hl, _⟩ := h
    exact congrArg Nat.succ hl
  · obtain ⟨C, p, dx, us, rfl, hl, hp, hc, lo, k⟩ := h
    match us, hl with
    | [u1, u2], _ =>
      refine ⟨_, (pss_cons (ps_fld (pv 0) (pv 1) rfl) (pss_one (ps_fld (pv 0) (pv 2) rfl))), ?_⟩
      have e1 : putF "begin" u1 ([] : List (Str × V)) = ([("begin", u1)] : List (Str × V)) := putE
      have h1 : (upd H p (HO.ins C dx (putF "begin" u1 ([] : List (Str × V))))) p = some (HO.ins C dx ([("begin", u1)] : List (Str × V))) := by rw [e1]; exact upd_same
      have e2 : putF "span" u2 ([("begin", u1)] : List (Str × V)) = ([("begin", u1), ("span", u2)] : List (Str × V)) := (putS (by decide +kernel) putE)
      have eH : (upd (upd H p (HO.ins C dx (putF "begin" u1 ([] : List (Str × V))))) p (HO.ins C dx (putF "span" u2 ([("begin", u1)] : List (Str × V))))) = upd H p (HO.ins C dx ([("begin", u1), ("span", u2)] : List (Str × V))) := by rw [e1, e2, L2.upd_upd]
      have k2 : Q .non (upd H p (HO.ins C dx ([("begin", u1), ("span", u2)] : List (Str × V)))) := k
      rw [← eH] at k2
      exact ⟨_, rfl, _, rfl, p, C, dx, ([] : List (Str × V)), rfl, hp, hc, lo.1, (by show 0 < 1000; decide), _, rfl, _, rfl, p, C, dx, ([("begin", u1)] : List (Str × V)), rfl, h1, hc, lo.2.1, (by show 1 < 1000; decide), k2⟩
theorem ok_Full____init__ {f : Addr} {fd : FuncData} (F : Fun K "__init__" "Full.__init__" s_Full____init__ f fd) {C_Leaf fi_Leaf : Addr} {di_Leaf : FuncData} {mc_Leaf : Value} (T_Leaf : KI K mg "Leaf" C_Leaf) (r_Leaf : ClX.CRead K C_Leaf mc_Leaf) (cv_Leaf : ClX.CVal K C_Leaf mc_Leaf "__init__" (.ref fi_Leaf) (.ref fi_Leaf)) (ki_Leaf : PySem.W.keepIn K (.ref fi_Leaf) = true) (bi_Leaf : L2.Binds K di_Leaf ["self", "begin", "span"] []) (Gi_Leaf : FnOk Pr wo K mg base CX0 1 fi_Leaf di_Leaf ["self", "begin", "span"] (spInit K ["begin", "span"])) : FnOk Pr wo K mg base CX0 2 f fd ["self", "begin", "span", "values"] (spInit K ["begin", "span", "worths"]) := by
  refine F.ok sc_Full____init__ (fun vs H Q E h => ?_) (fun cdv A outer s H vs Q E hr h => ?_)
  · obtain ⟨_, _, _, us, rfl, hl, _⟩ := h
    exact congrArg Nat.succ hl
  · obtain ⟨C, p, dx, us, rfl, hl, hp, hc, lo, k⟩ := h
    match us, hl with
    | [u1, u2, u3], _ =>
      refine ⟨_, (pss_cons (ps_expr (pe_clsf (pe_glob (v := .ref C_Leaf) (by rfl) T_Leaf.g rfl) r_Leaf cv_Leaf Gi_Leaf ki_Leaf (hr.mono (by decide)) bi_Leaf .nil pass0 (pa_cons (pv 0) (pa_cons (pv 1) (pa_cons (pv 2) pa_nil))))) (pss_one (ps_fld (pv 0) (pv 3) rfl))), ?_⟩
      have h2 : (upd H p (HO.ins C dx ([("begin", u1), ("span", u2)] : List (Str × V)))) p = some (HO.ins C dx ([("begin", u1), ("span", u2)] : List (Str × V))) := upd_same
      have e3 : putF "worths" u3 ([("begin", u1), ("span", u2)] : List (Str × V)) = ([("begin", u1), ("span", u2), ("worths", u3)] : List (Str × V)) := (putS (by decide +kernel) (putS (by decide +kernel) putE))
      have eH : (upd (upd H p (HO.ins C dx ([("begin", u1), ("span", u2)] : List (Str × V)))) p (HO.ins C dx (putF "worths" u3 ([("begin", u1), ("span", u2)] : List (Str × V))))) = upd H p (HO.ins C dx ([("begin", u1), ("span", u2), ("worths", u3)] : List (Str × V))) := by rw [e3, L2.upd_upd]
      have k2 : Q .non (upd H p (HO.ins C dx ([("begin", u1), ("span", u2), ("worths", u3)] : List (Str × V)))) := k
      rw [← eH] at k2
      exact ⟨rfl, _, rfl, _, rfl, _, rfl, C, p, dx, [u1, u2], rfl, rfl, hp, hc, ⟨lo.1, ⟨lo.2.1, trivial⟩⟩, _, rfl, _, rfl, p, C, dx, ([("begin", u1), ("span", u2)] : List (Str × V)), rfl, h2, hc, lo.2.2.1, (by show 2 < 1000; decide), k2⟩
theorem ok_Still____init__ {f : Addr} {fd : FuncData} (F : Fun K "__init__" "Still.__init__" s_Still____init__ f fd) {C_Leaf fi_Leaf : Addr} {di_Leaf : FuncData} {mc_Leaf : Value} (T_Leaf : KI K mg "Leaf" C_Leaf) (r_Leaf : ClX.CRead K C_Leaf mc_Leaf) (cv_Leaf : ClX.CVal K C_Leaf mc_Leaf "__init__" (.ref fi_Leaf) (.ref fi_Leaf)) (ki_Leaf : PySem.W.keepIn K (.ref fi_Leaf) = true) (bi_Leaf : L2.Binds K di_Leaf ["self", "begin", "span"] []) (Gi_Leaf : FnOk Pr wo K mg base CX0 1 fi_Leaf di_Leaf ["self", "begin", "span"] (spInit K ["begin", "span"])) : FnOk Pr wo K mg base CX0 2 f fd ["self", "begin", "span", "back"] (spInit K ["begin", "span", "back"]) := by
  refine F.ok sc_Still____init__ (fun vs H Q E h => ?_) (fun cdv A outer s H vs Q E hr h => ?_)
  · obtain ⟨_, _, _, us, rfl, hl, _⟩ := h
    exact congrArg Nat.succ hl
  · obtain ⟨C, p, dx, us, rfl, hl, hp, hc, lo, k⟩ := h
    match us, hl with
    | [u1, u2, u3], _ =>
      refine ⟨_, (pss_cons (ps_expr (pe_clsf (pe_glob (v := .ref C_Leaf) (by rfl) T_Leaf.g rfl) r_Leaf cv_Leaf Gi_Leaf ki_Leaf (hr.mono (by decide)) bi_Leaf .nil pass0 (pa_cons (pv 0) (pa_cons (pv 1) (pa_cons (pv 2) pa_nil))))) (pss_one (ps_fld (pv 0) (pv 3) rfl))), ?_⟩
      have h2 : (upd H p (HO.ins C dx ([("begin", u1), ("span", u2)] : List (Str × V)))) p = some (HO.ins C dx ([("begin", u1), ("span", u2)] : List (Str × V))) := upd_same
      have e3 : putF "back" u3 ([("begin", u1), ("span", u2)] : List (Str × V)) = ([("begin", u1), ("span", u2), ("back", u3)] : List (Str × V)) := (putS (by decide +kernel) (putS (by decide +kernel) putE))
      have eH : (upd (upd H p (HO.ins C dx ([("begin", u1), ("span", u2)] : List (Str × V)))) p (HO.ins C dx (putF "back" u3 ([("begin", u1), ("span", u2)] : List (Str × V))))) = upd H p (HO.ins C dx ([("begin", u1), ("span", u2), ("back", u3)] : List (Str × V))) := by rw [e3, L2.upd_upd]
      have k2 : Q .non (upd H p (HO.ins C dx ([("begin", u1), ("span", u2), ("back", u3)] : List (Str × V)))) := k
      rw [← eH] at k2
      exact ⟨rfl, _, rfl, _, rfl, _, rfl, C, p, dx, [u1, u2], rfl, rfl, hp, hc, ⟨lo.1, ⟨lo.2.1, trivial⟩⟩, _, rfl, _, rfl, p, C, dx, ([("begin", u1), ("span", u2)] : List (Str × V)), rfl, h2, hc, lo.2.2.1, (by show 2 < 1000; decide), k2⟩
theorem ok_Woven____init__ {f : Addr} {fd : FuncData} (F : Fun K "__init__" "Woven.__init__" s_Woven____init__ f fd) {C_Leaf fi_Leaf : Addr} {di_Leaf : FuncData} {mc_Leaf : Value} (T_Leaf : KI K mg "Leaf" C_Leaf) (r_Leaf : ClX.CRead K C_Leaf mc_Leaf) (cv_Leaf : ClX.CVal K C_Leaf mc_Leaf "__init__" (.ref fi_Leaf) (.ref fi_Leaf)) (ki_Leaf : PySem.W.keepIn K (.ref fi_Leaf) = true) (bi_Leaf : L2.Binds K di_Leaf ["self", "begin", "span"] []) (Gi_Leaf : FnOk Pr wo K mg base CX0 1 fi_Leaf di_Leaf ["self", "begin", "span"] (spInit K ["begin", "span"])) : FnOk Pr wo K mg base CX0 2 f fd ["self", "begin", "span", "rules"] (spInit K ["begin", "span", "rules"]) := by
  refine F.ok sc_Woven____init__ (fun vs H Q E h => ?_) (fun cdv A outer s H vs Q E hr h => ?_)
  · obtain ⟨_, _, _, us, rfl, hl, _⟩ := h
    exact congrArg Nat.succ hl
  · obtain ⟨C, p, dx, us, rfl, hl, hp, hc, lo, k⟩ := h
    match us, hl with
    | [u1, u2, u3], _ =>
      refine ⟨_, (pss_cons (ps_expr (pe_clsf (pe_glob (v := .ref C_Leaf) (by rfl) T_Leaf.g rfl) r_Leaf cv_Leaf Gi_Leaf ki_Leaf (hr.mono (by decide)) bi_Leaf .nil pass0 (pa_cons (pv 0) (pa_cons (pv 1) (pa_cons (pv 2) pa_nil))))) (pss_one (ps_fld (pv 0) (pv 3) rfl))), ?_⟩
      have h2 : (upd H p (HO.ins C dx ([("begin", u1), ("span", u2)] : List (Str × V)))) p = some (HO.ins C dx ([("begin", u1), ("span", u2)] : List (Str × V))) := upd_same
      have e3 : putF "rules" u3 ([("begin", u1), ("span", u2)] : List (Str × V)) = ([("begin", u1), ("span", u2), ("rules", u3)] : List (Str × V)) := (putS (by decide +kernel) (putS (by decide +kernel) putE))
      have eH : (upd (upd H p (HO.ins C dx ([("begin", u1), ("span", u2)] : List (Str × V)))) p (HO.ins C dx (putF "rules" u3 ([("begin", u1), ("span", u2)] : List (Str × V))))) = upd H p (HO.ins C dx ([("begin", u1), ("span", u2), ("rules", u3)] : List (Str × V))) := by rw [e3, L2.upd_upd]
      have k2 : Q .non (upd H p (HO.ins C dx ([("begin", u1), ("span", u2), ("rules", u3)] : List (Str × V)))) := k
      rw [← eH] at k2
      exact ⟨rfl, _, rfl, _, rfl, _, rfl, C, p, dx, [u1, u2], rfl, rfl, hp, hc, ⟨lo.1, ⟨lo.2.1, trivial⟩⟩, _, rfl, _, rfl, p, C, dx, ([("begin", u1), ("span", u2)] : List (Str × V)), rfl, h2, hc, lo.2.2.1, (by show 2 < 1000; decide), k2⟩
theorem ok_leaf_of {f : Addr} {fd : FuncData}  (F : Fun K "leaf_of" "leaf_of" s_leaf_of f fd) {C_NoLeaf : Addr} (T_NoLeaf : ExcR K mg "NoLeaf" C_NoLeaf) {C_Full : Addr} (T_Full : KI K mg "Full" C_Full) {C_Still : Addr} (T_Still : KI K mg "Still" C_Still) {C_Woven : Addr} (T_Woven : KI K mg "Woven" C_Woven) {fi_Full : Addr} {di_Full : FuncData} (M_Full : Mk K C_Full fi_Full) (lo_Full : LaysOk K C_Full ["begin", "span", "worths"]) (bi_Full : L2.Binds K di_Full ["self", "begin", "span", "values"] []) (Gi_Full : FnOk Pr wo K mg base CX0 2 fi_Full di_Full ["self", "begin", "span", "values"] (spInit K ["begin", "span", "worths"])) {fi_Still : Addr} {di_Still : FuncData} (M_Still : Mk K C_Still fi_Still) (lo_Still : LaysOk K C_Still ["begin", "span", "back"]) (bi_Still : L2.Binds K di_Still ["self", "begin", "span", "back"] []) (Gi_Still : FnOk Pr wo K mg base CX0 2 fi_Still di_Still ["self", "begin", "span", "back"] (spInit K ["begin", "span", "back"])) {fi_Woven : Addr} {di_Woven : FuncData} (M_Woven : Mk K C_Woven fi_Woven) (lo_Woven : LaysOk K C_Woven ["begin", "span", "rules"]) (bi_Woven : L2.Binds K di_Woven ["self", "begin", "span", "rules"] []) (Gi_Woven : FnOk Pr wo K mg base CX0 2 fi_Woven di_Woven ["self", "begin", "span", "rules"] (spInit K ["begin", "span", "rules"])) {f_is_value : Addr} {d_is_value : FuncData} (g_is_value : mg "is_value" = some (.ref f_is_value)) (k_is_value : PySem.W.keepIn K (.ref f_is_value) = true) (b_is_value : L2.Binds K d_is_value ["thing"] []) (G_is_value : FnOk Pr wo K mg base CX0 2 f_is_value d_is_value ["thing"] (sp_is_value K)) {f_is_whole : Addr} {d_is_whole : FuncData} (g_is_whole : mg "is_whole" = some (.ref f_is_whole)) (k_is_whole : PySem.W.keepIn K (.ref f_is_whole) = true) (b_is_whole : L2.Binds K d_is_whole ["thing", "low", "high"] []) (G_is_whole : FnOk Pr wo K mg base CX0 1 f_is_whole d_is_whole ["thing", "low", "high"] (sp_is_whole K)) {f_is_rule : Addr} {d_is_rule : FuncData} (g_is_rule : mg "is_rule" = some (.ref f_is_rule)) (k_is_rule : PySem.W.keepIn K (.ref f_is_rule) = true) (b_is_rule : L2.Binds K d_is_rule ["thing"] []) (G_is_rule : FnOk Pr wo K mg base CX0 4 f_is_rule d_is_rule ["thing"] (sp_is_rule K)) {f_is_row_of__is_value : Addr} {d_is_row_of__is_value : FuncData} (g_is_row_of__is_value : mg "is_row_of" = some (.ref f_is_row_of__is_value)) (k_is_row_of__is_value : PySem.W.keepIn K (.ref f_is_row_of__is_value) = true) (b_is_row_of__is_value : L2.Binds K d_is_row_of__is_value ["thing", "good"] []) (G_is_row_of__is_value : FnOk Pr wo K mg base CX0 3 f_is_row_of__is_value d_is_row_of__is_value ["thing", "good"] (sp_is_row_of__is_value K f_is_value)) {f_is_row_of__is_rule : Addr} {d_is_row_of__is_rule : FuncData} (g_is_row_of__is_rule : mg "is_row_of" = some (.ref f_is_row_of__is_rule)) (k_is_row_of__is_rule : PySem.W.keepIn K (.ref f_is_row_of__is_rule) = true) (b_is_row_of__is_rule : L2.Binds K d_is_row_of__is_rule ["thing", "good"] []) (G_is_row_of__is_rule : FnOk Pr wo K mg base CX0 5 f_is_row_of__is_rule d_is_row_of__is_rule ["thing", "good"] (sp_is_row_of__is_rule K f_is_rule)) (bI_isinstance : mg "isinstance" = none) (bI_tuple : mg "tuple" = none) (bI_len : mg "len" = none) (kb_Full____init___2_values : KBinds K di_Full ["self", "begin", "span", "values"] ["values"] (fun us ws => match us, ws with | [u0, u1, u2], [w0] => [u0, u1, u2, w0] | _, _ => []) (fun us ws => match us, ws with | [u0, u1, u2], [w0] => [u0, u1, u2, w0] | _, _ => [])) (kb_Still____init___2_back : KBinds K di_Still ["self", "begin", "span", "back"] ["back"] (fun us ws => match us, ws with | [u0, u1, u2], [w0] => [u0, u1, u2, w0] | _, _ => []) (fun us ws => match us, ws with | [u0, u1, u2], [w0] => [u0, u1, u2, w0] | _, _ => [])) (kb_Woven____init___2_rules : KBinds K di_Woven ["self", "begin", "span", "rules"] ["rules"] (fun us ws => match us, ws with | [u0, u1, u2], [w0] => [u0, u1, u2, w0] | _, _ => []) (fun us ws => match us, ws with | [u0, u1, u2], [w0] => [u0, u1, u2, w0] | _, _ => [])) : FnOk Pr wo K mg base (L2.CX Pr wo) 6 f fd ["told"] (sp_leaf_of K mg) := by
  refine F.okX sc_leaf_of (fun vs H Q E h => ?_) (fun cdv A outer s H0 vs Q E hr h => ?_)
  · obtain ⟨_, _, _, _, rfl, _⟩ := h; rfl
  · obtain ⟨B0, v_told, a_told, w, rfl, r_told, P⟩ := h
    have w0 := w
    have hu := hu_of hr
    have hu64 := hu64_of hr
    have hr1 : Room 1 _ := hr.mono (by decide)
    have hr2 : Room 2 _ := hr.mono (by decide)
    have hr3 : Room 3 _ := hr.mono (by decide)
    have hr4 : Room 4 _ := hr.mono (by decide)
    have hr5 : Room 5 _ := hr.mono (by decide)
    refine ⟨_, (pss_cons (ps_if (PW.pt (pw_or (pt_not (pt_val (pe_callB (r := rIsi K) call_isi (by rfl) bI_isinstance PyProof.Rows.boot_isinstance (pa_cons (pv 0) (pa_cons (pe_bltn (v := .ty "tuple") (by rfl) bI_tuple Y.boot_tuple rfl) pa_nil))))) (pw_or1 (pt_cmpR op_ne (pe_callB (r := rLenY K) cr_len (by rfl) bI_len PySem.boot_len (pa_cons (pv 0) pa_nil)) pe_int (nomark _))))) (pss_one (ps_raise rfl (takes_of rfl rfl rfl rfl) (pmk_own PySem.F.excBase_ValueError T_NoLeaf.ex T_NoLeaf.g T_NoLeaf.kp (raises_own T_NoLeaf.ec.hs T_NoLeaf.ty) rfl))) pss_nil)
      (pss_cons (ps_asg (pv 0) (pg_tupK (K := K) (n := 4) rfl rfl (pgs_cons (pg_name (i := 1) sc_leaf_of.nd rfl (by first | exact Or.inl rfl | exact Or.inr rfl)) (pgs_cons (pg_name (i := 2) sc_leaf_of.nd rfl (by first | exact Or.inl rfl | exact Or.inr rfl)) (pgs_cons (pg_name (i := 3) sc_leaf_of.nd rfl (by first | exact Or.inl rfl | exact Or.inr rfl)) (pgs_cons (pg_name (i := 4) sc_leaf_of.nd rfl (by first | exact Or.inl rfl | exact Or.inr rfl)) pgs_nil))))))
      (pss_cons (ps_if (PW.pt (pw_or (pt_not (pt_val (pe_call G_is_whole hr1 rfl g_is_whole k_is_whole b_is_whole .nil pass0 (pa_cons (pv 2) (pa_cons pe_int (pa_cons (pe_op op_pow pe_int pe_int) pa_nil)))))) (pw_or1 (pt_not (pt_val (pe_call G_is_whole hr1 rfl g_is_whole k_is_whole b_is_whole .nil pass0 (pa_cons (pv 3) (pa_cons pe_int (pa_cons (pe_op op_pow pe_int pe_int) pa_nil))))))))) (pss_one (ps_raise rfl (takes_of rfl rfl rfl rfl) (pmk_own PySem.F.excBase_ValueError T_NoLeaf.ex T_NoLeaf.g T_NoLeaf.kp (raises_own T_NoLeaf.ec.hs T_NoLeaf.ty) rfl))) pss_nil)
      (pss_cons (ps_if (PW.pt (pw_and (pt_cmpR (r := rEqD K) (op_eqD hu64) (pv 1) pe_str (nomark _)) (pw_and1 (pt_val (pe_call G_is_row_of__is_value hr3 rfl g_is_row_of__is_value k_is_row_of__is_value b_is_row_of__is_value .nil pass0 (pa_cons (pv 4) (pa_cons (pe_glob (v := .ref f_is_value) (by rfl) g_is_value rfl) pa_nil))))))) (pss_one (ps_ret (pe_makeB M_Full Gi_Full hr3 rfl T_Full.g kb_Full____init___2_values pass0 (pa_cons (pv 2) (pa_cons (pv 3) pa_nil)) (pk_cons (pv 4) pk_nil)))) pss_nil)
      (pss_cons (ps_if (PW.pt (pw_and (pt_cmpR (r := rEqD K) (op_eqD hu64) (pv 1) pe_str (nomark _)) (pw_and1 (pt_val (pe_call G_is_whole hr1 rfl g_is_whole k_is_whole b_is_whole .nil pass0 (pa_cons (pv 4) (pa_cons pe_int (pa_cons pe_int pa_nil)))))))) (pss_one (ps_ret (pe_makeB M_Still Gi_Still hr3 rfl T_Still.g kb_Still____init___2_back pass0 (pa_cons (pv 2) (pa_cons (pv 3) pa_nil)) (pk_cons (pv 4) pk_nil)))) pss_nil)
      (pss_cons (ps_if (PW.pt (pw_and (pt_cmpR (r := rEqD K) (op_eqD hu64) (pv 1) pe_str (nomark _)) (pw_and1 (pt_val (pe_call G_is_row_of__is_rule hr5 rfl g_is_row_of__is_rule k_is_row_of__is_rule b_is_row_of__is_rule .nil pass0 (pa_cons (pv 4) (pa_cons (pe_glob (v := .ref f_is_rule) (by rfl) g_is_rule rfl) pa_nil))))))) (pss_one (ps_ret (pe_makeB M_Woven Gi_Woven hr3 rfl T_Woven.g kb_Woven____init___2_rules pass0 (pa_cons (pv 2) (pa_cons (pv 3) pa_nil)) (pk_cons (pv 4) pk_nil)))) pss_nil)
      (pss_one (ps_raise rfl (takes_of rfl rfl rfl rfl) (pmk_own PySem.F.excBase_ValueError T_NoLeaf.ex T_NoLeaf.g T_NoLeaf.kp (raises_own T_NoLeaf.ec.hs T_NoLeaf.ty) rfl))))))))), ?_⟩
    unfold m_leaf_of at P
    have st := Stp.refl (W := []) w
    refine h_seq <| h_if ?_
    refine h_tor ?_
    refine h_tnot ?_
    refine h_tB ?_
    refine h_cb ?_
    refine h_cons ?_
    refine h_var rfl ?_
    refine h_cons ?_
    refine h_c ?_
    refine h_nil ?_
    refine isi (t := "tuple") w (r_told.mono st.ex) ?_
    refine h_bl ?_
    refine h_iteN (fun c1 => ?_) (fun c1 => ?_)
    · replace P := P.iteF c1
      refine h_iteT ?_
      exact P.err _ _ _ T_NoLeaf.g st
    · replace P := P.iteT c1
      refine h_test ?_
      refine h_op ?_
      refine h_cb ?_
      refine h_cons ?_
      refine h_var rfl ?_
      refine h_nil ?_
      obtain ⟨l1, hl2, P⟩ := P.asT
      have rc3 := (r_told.mono st.ex)
      rw [hl2] at rc3
      obtain ⟨p4, xs5, rfl, hs6, hr7⟩ := Rep.st w rc3
      refine h_lenTl hs6 hr7 ?_
      refine h_c ?_
      refine h_neI ?_
      refine h_bl ?_
      refine h_ite (fun c1 => ?_) (fun c1 => ?_)
      · replace P := P.iteT c1
        exact P.err _ _ _ T_NoLeaf.g st
      · replace P := P.iteF c1
        refine h_next ?_
        refine h_nx ?_
        refine h_seq ?_
        refine h_asg ?_
        refine h_var rfl ?_
        obtain ⟨l8, hl9, P⟩ := P.asT
        have rc10 := (r_told.mono st.ex)
        rw [hl9] at rc10
        obtain ⟨p11, xs12, hv, hs13, hr14⟩ := Rep.st w rc10
        cases hv
        obtain ⟨gd, P⟩ := P.guard
        refine h_tupG hs13 (by rw [hr14.length, List.length_map]; exact gd) ?_
        obtain ⟨x16, hx17, P⟩ := P.ix
        obtain ⟨u18, huu18, r19⟩ := RepL.atE hr14 hx17
        obtain ⟨x20, hx21, P⟩ := P.ix
        obtain ⟨u22, huu22, r23⟩ := RepL.atE hr14 hx21
        obtain ⟨x24, hx25, P⟩ := P.ix
        obtain ⟨u26, huu26, r27⟩ := RepL.atE hr14 hx25
        obtain ⟨x28, hx29, P⟩ := P.ix
        obtain ⟨u30, huu30, r31⟩ := RepL.atE hr14 hx29
        obtain rfl : xs12 = [u18, u22, u26, u30] := tup4 (by rw [hr14.length, List.length_map]; exact gd) huu18 huu22 huu26 huu30
        refine h_gcons ?_
        refine h_gname ?_
        refine h_gcons ?_
        refine h_gname ?_
        refine h_gcons ?_
        refine h_gname ?_
        refine h_gcons ?_
        refine h_gname ?_
        refine h_gnil ?_
        refine h_nx ?_
        refine h_seq <| h_if ?_
        refine h_tor ?_
        refine h_tnot ?_
        refine h_tB ?_
        refine h_call ?_
        refine h_cons ?_
        refine h_var rfl ?_
        refine h_cons ?_
        refine h_c ?_
        refine h_cons ?_
        refine h_op (h_c (h_c (h_pow (k := 1000000000) (by decide +kernel) (by decide +kernel) ?_)))
        refine h_nil ?_
        refine ⟨B0, u22, x20, 0, 1000000000, w, rfl, r23, (P.bind.noErr).mono (fun x32 P => ?_) (fun _ z => z.elim)⟩
        refine fun v36 B33 H34 s35 r37 => ?_
        replace r19 := r19.mono s35.ex
        replace r23 := r23.mono s35.ex
        replace r27 := r27.mono s35.ex
        replace r31 := r31.mono s35.ex
        replace st := st.go s35 go0
        replace w := s35.ok
        cases r37
        refine h_bl ?_
        refine h_iteN (fun c1 => ?_) (fun c1 => ?_)
        · replace P := P.iteF c1
          refine h_iteT ?_
          exact P.err _ _ _ T_NoLeaf.g st
        · replace P := P.iteT c1
          refine h_tnot ?_
          refine h_tB ?_
          refine h_call ?_
          refine h_cons ?_
          refine h_var rfl ?_
          refine h_cons ?_
          refine h_c ?_
          refine h_cons ?_
          refine h_op (h_c (h_c (h_pow (k := 1000000000) (by decide +kernel) (by decide +kernel) ?_)))
          refine h_nil ?_
          refine ⟨B33, u26, x24, 1, 1000000000, w, rfl, r27, (P.bind.noErr).mono (fun x38 P => ?_) (fun _ z => z.elim)⟩
          refine fun v42 B39 H40 s41 r43 => ?_
          replace r19 := r19.mono s41.ex
          replace r23 := r23.mono s41.ex
          replace r27 := r27.mono s41.ex
          replace r31 := r31.mono s41.ex
          replace st := st.go s41 go0
          replace w := s41.ok
          cases r43
          refine h_bl ?_
          refine h_iteN (fun c1 => ?_) (fun c1 => ?_)
          · replace P := P.iteF c1
            exact P.err _ _ _ T_NoLeaf.g st
          · replace P := P.iteT c1
            refine h_next ?_
            refine h_nx ?_
            refine h_seq <| h_if ?_
            have wj45 := w
            have sj44 := Stp.refl (W := []) w
            refine h_condJ P (fun H' => ∃ B', Stp [] B39 H40 B' H') (fun N kk46 P => ?_) ?_
            · skip
              refine h_tand ?_
              refine h_test ?_
              refine h_op ?_
              refine h_var rfl ?_
              refine h_c ?_
              obtain ⟨gd, P⟩ := P.guard
              refine h_eqD (d := x16) (e := (enc ("full" : Str))) w r19 (Rep.str _) gd ?_
              refine h_bl ?_
              refine h_ite (fun c1 => ?_) (fun c1 => ?_)
              · replace P := P.iteT c1
                refine h_tB ?_
                refine h_call ?_
                refine h_cons ?_
                refine h_var rfl ?_
                refine h_cons ?_
                refine h_c ?_
                refine h_nil ?_
                refine ⟨B39, u30, x28, w, rfl, r31, (P.bind.noErr).mono (fun x47 P => ?_) (fun _ z => z.elim)⟩
                refine fun v51 B48 H49 s50 r52 => ?_
                replace r19 := r19.mono s50.ex
                replace r23 := r23.mono s50.ex
                replace r27 := r27.mono s50.ex
                replace r31 := r31.mono s50.ex
                replace st := st.go s50 go0
                replace sj44 := sj44.go s50 go0
                replace w := s50.ok
                cases r52
                refine h_bl ?_
                exact kk46 _ _ ⟨_, sj44⟩ P.ok
              · replace P := P.iteF c1
                exact kk46 _ _ ⟨_, sj44⟩ P.ok
            rintro b53 H55 ⟨B54, s56⟩ P
            replace r19 := r19.mono s56.ex
            replace r23 := r23.mono s56.ex
            replace r27 := r27.mono s56.ex
            replace r31 := r31.mono s56.ex
            replace st := st.go s56 go0
            replace w := s56.ok
            refine h_ite (fun c1 => ?_) (fun c1 => ?_)
            · replace P := P.iteT c1
              refine h_ret ?_
              refine h_makeBE ?_
              refine h_cons ?_
              refine h_var rfl ?_
              refine h_cons ?_
              refine h_var rfl ?_
              refine h_nil ?_
              refine h_cons ?_
              refine h_var rfl ?_
              refine h_nil ?_
              obtain ⟨i57, hi58, P⟩ := P.asI
              have rc59 := r23
              rw [hi58] at rc59
              cases rc59
              obtain ⟨i60, hi61, P⟩ := P.asI
              have rc62 := r27
              rw [hi61] at rc62
              cases rc62
              refine h_make (us := [.int i57, .int i60, u30]) (ns := ["begin", "span", "worths"]) rfl w T_Full.toKC lo_Full (ds := [("begin", enc (i57 : Int)), ("span", enc (i60 : Int)), ("worths", enc (x28 : D))]) (.cons (Rep.int _) (.cons (Rep.int _) (.cons r31 .nil))) (fun p63 B64 H65 s66 r67 => ?_)
              replace r19 := r19.mono s66.ex
              replace r23 := r23.mono s66.ex
              replace r27 := r27.mono s66.ex
              replace r31 := r31.mono s66.ex
              replace st := st.go s66 go0
              replace w := s66.ok
              replace r67 : Rep K B64 (.ref p63) (enc (K_Leaf.Full i57 i60 x28)) := r67
              exact P.ok _ _ _ st r67
            · replace P := P.iteF c1
              refine h_next ?_
              refine h_nx ?_
              refine h_seq <| h_if ?_
              have wj69 := w
              have sj68 := Stp.refl (W := []) w
              refine h_condJ P (fun H' => ∃ B', Stp [] B54 H55 B' H') (fun N kk70 P => ?_) ?_
              · skip
                refine h_tand ?_
                refine h_test ?_
                refine h_op ?_
                refine h_var rfl ?_
                refine h_c ?_
                obtain ⟨gd, P⟩ := P.guard
                refine h_eqD (d := x16) (e := (enc ("still" : Str))) w r19 (Rep.str _) gd ?_
                refine h_bl ?_
                refine h_ite (fun c1 => ?_) (fun c1 => ?_)
                · replace P := P.iteT c1
                  refine h_tB ?_
                  refine h_call ?_
                  refine h_cons ?_
                  refine h_var rfl ?_
                  refine h_cons ?_
                  refine h_c ?_
                  refine h_cons ?_
                  refine h_c ?_
                  refine h_nil ?_
                  refine ⟨B54, u30, x28, 1, 200, w, rfl, r31, (P.bind.noErr).mono (fun x71 P => ?_) (fun _ z => z.elim)⟩
                  refine fun v75 B72 H73 s74 r76 => ?_
                  replace r19 := r19.mono s74.ex
                  replace r23 := r23.mono s74.ex
                  replace r27 := r27.mono s74.ex
                  replace r31 := r31.mono s74.ex
                  replace st := st.go s74 go0
                  replace sj68 := sj68.go s74 go0
                  replace w := s74.ok
                  cases r76
                  refine h_bl ?_
                  exact kk70 _ _ ⟨_, sj68⟩ P.ok
                · replace P := P.iteF c1
                  exact kk70 _ _ ⟨_, sj68⟩ P.ok
              rintro b77 H79 ⟨B78, s80⟩ P
              replace r19 := r19.mono s80.ex
              replace r23 := r23.mono s80.ex
              replace r27 := r27.mono s80.ex
              replace r31 := r31.mono s80.ex
              replace st := st.go s80 go0
              replace w := s80.ok
              refine h_ite (fun c1 => ?_) (fun c1 => ?_)
              · replace P := P.iteT c1
                refine h_ret ?_
                refine h_makeBE ?_
                refine h_cons ?_
                refine h_var rfl ?_
                refine h_cons ?_
                refine h_var rfl ?_
                refine h_nil ?_
                refine h_cons ?_
                refine h_var rfl ?_
                refine h_nil ?_
                obtain ⟨i81, hi82, P⟩ := P.asI
                have rc83 := r23
                rw [hi82] at rc83
                cases rc83
                obtain ⟨i84, hi85, P⟩ := P.asI
                have rc86 := r27
                rw [hi85] at rc86
                cases rc86
                obtain ⟨i87, hi88, P⟩ := P.asI
                have rc89 := r31
                rw [hi88] at rc89
                cases rc89
                refine h_make (us := [.int i81, .int i84, .int i87]) (ns := ["begin", "span", "back"]) rfl w T_Still.toKC lo_Still (ds := [("begin", enc (i81 : Int)), ("span", enc (i84 : Int)), ("back", enc (i87 : Int))]) (.cons (Rep.int _) (.cons (Rep.int _) (.cons (Rep.int _) .nil))) (fun p90 B91 H92 s93 r94 => ?_)
                replace r19 := r19.mono s93.ex
                replace r23 := r23.mono s93.ex
                replace r27 := r27.mono s93.ex
                replace r31 := r31.mono s93.ex
                replace st := st.go s93 go0
                replace w := s93.ok
                replace r94 : Rep K B91 (.ref p90) (enc (K_Leaf.Still i81 i84 i87)) := r94
                exact P.ok _ _ _ st r94
              · replace P := P.iteF c1
                refine h_next ?_
                refine h_nx ?_
                refine h_seq <| h_if ?_
                have wj96 := w
                have sj95 := Stp.refl (W := []) w
                refine h_condJ P (fun H' => ∃ B', Stp [] B78 H79 B' H') (fun N kk97 P => ?_) ?_
                · skip
                  refine h_tand ?_
                  refine h_test ?_
                  refine h_op ?_
                  refine h_var rfl ?_
                  refine h_c ?_
                  obtain ⟨gd, P⟩ := P.guard
                  refine h_eqD (d := x16) (e := (enc ("woven" : Str))) w r19 (Rep.str _) gd ?_
                  refine h_bl ?_
                  refine h_ite (fun c1 => ?_) (fun c1 => ?_)
                  · replace P := P.iteT c1
                    refine h_tB ?_
                    refine h_call ?_
                    refine h_cons ?_
                    refine h_var rfl ?_
                    refine h_cons ?_
                    refine h_c ?_
                    refine h_nil ?_
                    refine ⟨B78, u30, x28, w, rfl, r31, (P.bind.noErr).mono (fun x98 P => ?_) (fun _ z => z.elim)⟩
                    refine fun v102 B99 H100 s101 r103 => ?_
                    replace r19 := r19.mono s101.ex
                    replace r23 := r23.mono s101.ex
                    replace r27 := r27.mono s101.ex
                    replace r31 := r31.mono s101.ex
                    replace st := st.go s101 go0
                    replace sj95 := sj95.go s101 go0
                    replace w := s101.ok
                    cases r103
                    refine h_bl ?_
                    exact kk97 _ _ ⟨_, sj95⟩ P.ok
                  · replace P := P.iteF c1
                    exact kk97 _ _ ⟨_, sj95⟩ P.ok
                rintro b104 H106 ⟨B105, s107⟩ P
                replace r19 := r19.mono s107.ex
                replace r23 := r23.mono s107.ex
                replace r27 := r27.mono s107.ex
                replace r31 := r31.mono s107.ex
                replace st := st.go s107 go0
                replace w := s107.ok
                refine h_ite (fun c1 => ?_) (fun c1 => ?_)
                · replace P := P.iteT c1
                  refine h_ret ?_
                  refine h_makeBE ?_
                  refine h_cons ?_
                  refine h_var rfl ?_
                  refine h_cons ?_
                  refine h_var rfl ?_
                  refine h_nil ?_
                  refine h_cons ?_
                  refine h_var rfl ?_
                  refine h_nil ?_
                  obtain ⟨i108, hi109, P⟩ := P.asI
                  have rc110 := r23
                  rw [hi109] at rc110
                  cases rc110
                  obtain ⟨i111, hi112, P⟩ := P.asI
                  have rc113 := r27
                  rw [hi112] at rc113
                  cases rc113
                  refine h_make (us := [.int i108, .int i111, u30]) (ns := ["begin", "span", "rules"]) rfl w T_Woven.toKC lo_Woven (ds := [("begin", enc (i108 : Int)), ("span", enc (i111 : Int)), ("rules", enc (x28 : D))]) (.cons (Rep.int _) (.cons (Rep.int _) (.cons r31 .nil))) (fun p114 B115 H116 s117 r118 => ?_)
                  replace r19 := r19.mono s117.ex
                  replace r23 := r23.mono s117.ex
                  replace r27 := r27.mono s117.ex
                  replace r31 := r31.mono s117.ex
                  replace st := st.go s117 go0
                  replace w := s117.ok
                  replace r118 : Rep K B115 (.ref p114) (enc (K_Leaf.Woven i108 i111 x28)) := r118
                  exact P.ok _ _ _ st r118
                · replace P := P.iteF c1
                  refine h_next ?_
                  refine h_nx ?_
                  exact P.err _ _ _ T_NoLeaf.g st
theorem ok__law_cell_at {f : Addr} {fd : FuncData}  (F : Fun K "_law_cell_at" "_law_cell_at" s__law_cell_at f fd) (bI_len : mg "len" = none) : FnOk Pr wo K mg base CX0 1 f fd ["_law_script", "_law_k"] (sp__law_cell_at K) := by
  refine F.ok sc__law_cell_at (fun vs H Q E h => ?_) (fun cdv A outer s H0 vs Q E hr h => ?_)
  · obtain ⟨_, _, _, _, _, rfl, _⟩ := h; rfl
  · obtain ⟨B0, v_script, a_script, a_k, w, rfl, r_script, P⟩ := h
    have w0 := w
    have hu := hu_of hr
    have hu64 := hu64_of hr
    refine ⟨_, (pss_cons (ps_if (pt_cmpR op_lt (pv 1) (pe_callB (r := rLenY K) cr_len (by rfl) bI_len PySem.boot_len (pa_cons (pv 0) pa_nil)) (nomark _)) (pss_one (ps_ret (pe_ix (r := rIxL K) ix_list (pv 0) (pv 1) (fun _ _ => rfl)))) pss_nil)
      (pss_cons (ps_if (pt_cmpR (r := rEqD K) (op_eqD hu64) (pv 0) (pe_lst pa_nil) (nomark _)) (pss_one (ps_ret (pv 1))) pss_nil)
      (pss_one (ps_ret (pe_op op_add (pe_ix (r := rIxL K) ix_list (pv 0) (pe_op op_mod (pv 1) (pe_callB (r := rLenY K) cr_len (by rfl) bI_len PySem.boot_len (pa_cons (pv 0) pa_nil))) (fun _ _ => rfl)) (pe_op op_mul pe_int (pv 1))))))), ?_⟩
    unfold l_cell_at at P
    have st := Stp.refl (W := []) w
    refine h_seq <| h_if ?_
    refine h_test ?_
    refine h_op ?_
    refine h_var rfl ?_
    refine h_cb ?_
    refine h_cons ?_
    refine h_var rfl ?_
    refine h_nil ?_
    obtain ⟨p1, xs2, rfl, hs3, hr4⟩ := Bor.sq (r_script.step st)
    refine h_len hs3 hr4 ?_
    refine h_I0 ?_
    refine h_bl ?_
    refine h_ite (fun c1 => ?_) (fun c1 => ?_)
    · replace P := P.iteT c1
      refine h_ret ?_
      refine h_op ?_
      refine h_var rfl ?_
      refine h_var rfl ?_
      obtain ⟨p5, xs6, hv, hs7, hr8⟩ := Bor.sq (r_script.step st)
      cases hv
      obtain ⟨x9, hx10, P⟩ := P.ix
      obtain ⟨u11, hu, r12⟩ := RepL.atE hr8 hx10
      refine h_ixL hs7 hu ?_
      cases r12
      exact P.ok _ _ _ st (Rep.int _)
    · replace P := P.iteF c1
      refine h_next ?_
      refine h_nx ?_
      refine h_seq <| h_if ?_
      refine h_test ?_
      refine h_op ?_
      refine h_var rfl ?_
      refine h_lst ?_
      refine h_nil ?_
      refine h_newL w (ds := (([] : List D)).map enc) (K := K) .nil (fun p13 B14 H15 s16 r17 => ?_) (by show 0 ≤ sizeLine; decide)
      replace st := st.go s16 go0
      replace w := s16.ok
      replace r17 : Rep K B14 (.ref p13) (enc ([] : List D)) := r17
      obtain ⟨gd, P⟩ := P.guard
      obtain ⟨p18, xs19, hv, hs20, hr21⟩ := Bor.sq (r_script.step st)
      cases hv
      refine h_eqC (d := (enc a_script)) (e := (enc ([] : List D))) (SqL.cp w hs20 hr21) (Rep.cp w r17) gd ?_
      refine h_bl ?_
      refine h_ite (fun c1 => ?_) (fun c1 => ?_)
      · replace P := P.iteT c1
        refine h_ret ?_
        refine h_var rfl ?_
        exact P.ok _ _ _ st (Rep.int _)
      · replace P := P.iteF c1
        refine h_next ?_
        refine h_nx ?_
        refine h_ret ?_
        refine h_op ?_
        refine h_op ?_
        refine h_var rfl ?_
        refine h_op ?_
        refine h_var rfl ?_
        refine h_cb ?_
        refine h_cons ?_
        refine h_var rfl ?_
        refine h_nil ?_
        obtain ⟨p22, xs23, hv, hs24, hr25⟩ := Bor.sq (r_script.step st)
        cases hv
        refine h_len hs24 hr25 ?_
        obtain ⟨gd, P⟩ := P.guard
        refine h_I gd ?_
        obtain ⟨p26, xs27, hv, hs28, hr29⟩ := Bor.sq (r_script.step st)
        cases hv
        obtain ⟨x30, hx31, P⟩ := P.ix
        obtain ⟨u32, hu, r33⟩ := RepL.atE hr29 hx31
        refine h_ixL hs28 hu ?_
        cases r33
        refine h_op ?_
        refine h_c ?_
        refine h_var rfl ?_
        refine h_I (.inl ⟨by decide +kernel, by decide +kernel⟩) ?_
        refine h_I0 ?_
        exact P.ok _ _ _ st (Rep.int _)
theorem ok__law_well {f : Addr} {fd : FuncData}  (F : Fun K "_law_well" "_law_well" s__law_well f fd) {f__law_cell_at : Addr} {d__law_cell_at : FuncData} (g__law_cell_at : mg "_law_cell_at" = some (.ref f__law_cell_at)) (k__law_cell_at : PySem.W.keepIn K (.ref f__law_cell_at) = true) (b__law_cell_at : L2.Binds K d__law_cell_at ["_law_script", "_law_k"] []) (G__law_cell_at : FnOk Pr wo K mg base CX0 1 f__law_cell_at d__law_cell_at ["_law_script", "_law_k"] (sp__law_cell_at K)) : FnOk Pr wo K mg base CX0 2 f fd ["_law_script", "_law_k"] (sp__law_well K) := by
  refine F.ok sc__law_well (fun vs H Q E h => ?_) (fun cdv A outer s H0 vs Q E hr h => ?_)
  · obtain ⟨_, _, _, _, _, rfl, _⟩ := h; rfl
  · obtain ⟨B0, v_script, a_script, a_k, w, rfl, r_script, P⟩ := h
    have w0 := w
    have hu := hu_of hr
    have hu64 := hu64_of hr
    have hr1 : Room 1 _ := hr.mono (by decide)
    refine ⟨_, (pss_cons (ps_set (i := 2) sc__law_well.nd rfl (by first | exact Or.inl rfl | exact Or.inr rfl) (pe_call G__law_cell_at hr1 rfl g__law_cell_at k__law_cell_at b__law_cell_at .nil pass0 (pa_cons (pv 0) (pa_cons (pv 1) pa_nil))))
      (pss_one (ps_ret (pe_lst (pa_cons (pv 2) (pa_cons (pe_op op_mod (pv 2) pe_int) (pa_cons pe_int pa_nil))))))), ?_⟩
    unfold l_well at P
    have st := Stp.refl (W := []) w
    refine h_set ?_
    refine h_call ?_
    refine h_cons ?_
    refine h_var rfl ?_
    refine h_cons ?_
    refine h_var rfl ?_
    refine h_nil ?_
    refine ⟨B0, v_script, a_script, a_k, w, rfl, ((r_script.step st).w sub0), (P.bind).mono (fun x1 P => ?_) (fun _ z => z)⟩
    refine fun v5 B2 H3 s4 r6 => ?_
    replace st := st.go s4 go0
    replace w := s4.ok
    cases r6
    refine h_ret ?_
    refine h_lst ?_
    refine h_cons ?_
    refine h_var rfl ?_
    refine h_cons ?_
    refine h_op ?_
    refine h_var rfl ?_
    refine h_c ?_
    refine h_I (by decide +kernel) ?_
    refine h_cons ?_
    refine h_c ?_
    refine h_nil ?_
    refine h_newM w (ds := (([x1, (x1 % 2147483647), 0] : List Int)).map enc) (K := K) (.cons (Rep.int _) (.cons (Rep.int _) (.cons (Rep.int _) .nil))) (fun p7 H8 hn11 s9 m10 => ?_) (by show 3 ≤ sizeLine; decide)
    have n12 := st.nn hn11
    replace st := st.go s9 go0
    replace w := s9.ok
    exact P.ok _ _ _ st n12 m10
theorem ok__law_draw {f : Addr} {fd : FuncData}  (F : Fun K "_law_draw" "_law_draw" s__law_draw f fd)  : FnOk Pr wo K mg base CX0 1 f fd ["_law_well_here", "_law_many"] (sp__law_draw K) := by
  refine F.ok sc__law_draw (fun vs H Q E h => ?_) (fun cdv A outer s H0 vs Q E hr h => ?_)
  · obtain ⟨_, _, _, _, _, rfl, _⟩ := h; rfl
  · obtain ⟨B0, p_well_here, a_well_here, a_many, w, rfl, m_well_here, P⟩ := h
    have w0 := w
    have hu := hu_of hr
    have hu64 := hu64_of hr
    refine ⟨_, (pss_cons (ps_if (pt_cmpR op_ge (pe_ix (r := rIxL K) ix_list (pv 0) pe_int (fun _ _ => rfl)) (pe_op op_pow pe_int pe_int) (nomark _)) (pss_cons (ps_set (i := 2) sc__law_draw.nd rfl (by first | exact Or.inl rfl | exact Or.inr rfl) (pe_op op_mod (pe_ix (r := rIxL K) ix_list (pv 0) pe_int (fun _ _ => rfl)) (pv 1)))
      (pss_cons (ps_asg (pe_op op_fdivW (pe_ix (r := rIxL K) ix_list (pv 0) pe_int (fun _ _ => rfl)) (pv 1)) (pg_sub (pv 0) pe_int set_list))
      (pss_one (ps_ret (pv 2))))) pss_nil)
      (pss_cons (ps_asg (pe_op op_add (pe_ix (r := rIxL K) ix_list (pv 0) pe_int (fun _ _ => rfl)) pe_int) (pg_sub (pv 0) pe_int set_list))
      (pss_cons (ps_set (i := 3) sc__law_draw.nd rfl (by first | exact Or.inl rfl | exact Or.inr rfl) (pe_op op_mod (pe_op op_mul (pe_op op_add (pe_op op_add (pe_ix (r := rIxL K) ix_list (pv 0) pe_int (fun _ _ => rfl)) (pe_op op_mul pe_int (pe_ix (r := rIxL K) ix_list (pv 0) pe_int (fun _ _ => rfl)))) pe_int) pe_int) pe_int))
      (pss_cons (ps_set (i := 3) sc__law_draw.nd rfl (by first | exact Or.inl rfl | exact Or.inr rfl) (pe_op op_mod (pe_op op_mulW (pv 3) (pe_op op_add (pe_op op_fdiv (pv 3) pe_int) pe_int)) pe_int))
      (pss_one (ps_ret (pe_op op_mod (pe_op op_mod (pe_op op_mulW (pv 3) (pe_op op_add (pe_op op_fdiv (pv 3) pe_int) pe_int)) pe_int) (pv 1)))))))), ?_⟩
    unfold l_draw at P
    have st := Stp.refl (W := [p_well_here]) w
    refine h_seq <| h_if ?_
    refine h_test ?_
    refine h_op ?_
    refine h_op ?_
    refine h_var rfl ?_
    refine h_c ?_
    obtain ⟨xs2, hv, hs3, hr4⟩ := Mu.sq m_well_here
    obtain ⟨x5, hx6, P⟩ := P.ix
    obtain ⟨u7, hu, r8⟩ := RepL.atE hr4 hx6
    refine h_ixL hs3 hu ?_
    cases r8
    refine h_op (h_c (h_c (h_pow (k := 1000000000000000000) (by decide +kernel) (by decide +kernel) ?_)))
    refine h_I0 ?_
    refine h_bl ?_
    refine h_ite (fun c1 => ?_) (fun c1 => ?_)
    · replace P := P.iteT c1
      refine h_set ?_
      refine h_op ?_
      refine h_op ?_
      refine h_var rfl ?_
      refine h_c ?_
      obtain ⟨xs10, hv, hs11, hr12⟩ := Mu.sq m_well_here
      obtain ⟨x13, hx14, P⟩ := P.ix
      obtain ⟨u15, hu, r16⟩ := RepL.atE hr12 hx14
      refine h_ixL hs11 hu ?_
      cases r16
      refine h_var rfl ?_
      obtain ⟨gd, P⟩ := P.guard
      refine h_I gd ?_
      replace P := P.lt
      generalize hx : (x13 % a_many) = x17 at P ⊢
      refine h_seq ?_
      refine h_asg ?_
      refine h_op ?_
      refine h_op ?_
      refine h_var rfl ?_
      refine h_c ?_
      obtain ⟨xs19, hv, hs20, hr21⟩ := Mu.sq m_well_here
      obtain ⟨x22, hx23, P⟩ := P.ix
      obtain ⟨u24, hu, r25⟩ := RepL.atE hr21 hx23
      refine h_ixL hs20 hu ?_
      cases r25
      refine h_var rfl ?_
      obtain ⟨gd, P⟩ := P.guard
      refine h_I gd ?_
      refine h_sub ?_
      refine h_var rfl ?_
      refine h_c ?_
      obtain ⟨j27, hj28, P⟩ := P.set
      refine h_setL (b := (x22 / a_many)) w m_well_here (Rep.int _) hj28 (fun H29 s30 m_well_here => ?_)
      replace st := st.go s30 (go1 (.inl (by simp)))
      replace w := s30.ok
      generalize hl : List.set a_well_here j27 (x22 / a_many) = x26 at *
      refine h_nx ?_
      refine h_ret ?_
      refine h_var rfl ?_
      exact P.ok _ _ _ st m_well_here (Rep.int _)
    · replace P := P.iteF c1
      refine h_next ?_
      refine h_nx ?_
      refine h_seq ?_
      refine h_asg ?_
      refine h_op ?_
      refine h_op ?_
      refine h_var rfl ?_
      refine h_c ?_
      obtain ⟨xs32, hv, hs33, hr34⟩ := Mu.sq m_well_here
      obtain ⟨x35, hx36, P⟩ := P.ix
      obtain ⟨u37, hu, r38⟩ := RepL.atE hr34 hx36
      refine h_ixL hs33 hu ?_
      cases r38
      refine h_c ?_
      refine h_I0 ?_
      refine h_sub ?_
      refine h_var rfl ?_
      refine h_c ?_
      obtain ⟨j40, hj41, P⟩ := P.set
      refine h_setL (b := (x35 + 1)) w m_well_here (Rep.int _) hj41 (fun H42 s43 m_well_here => ?_)
      replace st := st.go s43 (go1 (.inl (by simp)))
      replace w := s43.ok
      generalize hl : List.set a_well_here j40 (x35 + 1) = x39 at *
      refine h_nx ?_
      refine h_set ?_
      refine h_op ?_
      refine h_op ?_
      refine h_op ?_
      refine h_op ?_
      refine h_op ?_
      refine h_var rfl ?_
      refine h_c ?_
      obtain ⟨xs45, hv, hs46, hr47⟩ := Mu.sq m_well_here
      obtain ⟨x48, hx49, P⟩ := P.ix
      obtain ⟨u50, hu, r51⟩ := RepL.atE hr47 hx49
      refine h_ixL hs46 hu ?_
      cases r51
      refine h_op ?_
      refine h_c ?_
      refine h_op ?_
      refine h_var rfl ?_
      refine h_c ?_
      obtain ⟨xs53, hv, hs54, hr55⟩ := Mu.sq m_well_here
      obtain ⟨x56, hx57, P⟩ := P.ix
      obtain ⟨u58, hu, r59⟩ := RepL.atE hr55 hx57
      refine h_ixL hs54 hu ?_
      cases r59
      refine h_I (.inl ⟨by decide +kernel, by decide +kernel⟩) ?_
      refine h_I0 ?_
      refine h_c ?_
      refine h_I0 ?_
      refine h_c ?_
      refine h_I (.inr ⟨by decide +kernel, by decide +kernel⟩) ?_
      refine h_c ?_
      refine h_I (by decide +kernel) ?_
      replace P := P.lt
      generalize hx : ((((x48 + (7919 * x56)) + 1) * 48271) % 2147483647) = x60 at P ⊢
      refine h_set ?_
      refine h_op ?_
      refine h_op ?_
      refine h_var rfl ?_
      refine h_op ?_
      refine h_op ?_
      refine h_var rfl ?_
      refine h_c ?_
      refine h_I ⟨by decide +kernel, by decide +kernel⟩ ?_
      refine h_c ?_
      refine h_I0 ?_
      obtain ⟨gd, P⟩ := P.guard
      refine h_I gd ?_
      refine h_c ?_
      refine h_I (by decide +kernel) ?_
      replace P := P.lt
      generalize hx : ((x60 * ((x60 / 1009) + 69621)) % 2147483647) = x61 at P ⊢
      refine h_ret ?_
      refine h_op ?_
      refine h_op ?_
      refine h_op ?_
      refine h_var rfl ?_
      refine h_op ?_
      refine h_op ?_
      refine h_var rfl ?_
      refine h_c ?_
      refine h_I ⟨by decide +kernel, by decide +kernel⟩ ?_
      refine h_c ?_
      refine h_I0 ?_
      obtain ⟨gd, P⟩ := P.guard
      refine h_I gd ?_
      refine h_c ?_
      refine h_I (by decide +kernel) ?_
      refine h_var rfl ?_
      obtain ⟨gd, P⟩ := P.guard
      refine h_I gd ?_
      exact P.ok _ _ _ st m_well_here (Rep.int _)
theorem ok__law_whole {f : Addr} {fd : FuncData}  (F : Fun K "_law_whole" "_law_whole" s__law_whole f fd) (bI_isinstance : mg "isinstance" = none) (bI_int : mg "int" = none) (bI_bool : mg "bool" = none) : FnOk Pr wo K mg base CX0 1 f fd ["_law_thing_here"] (sp__law_whole K) := by
  refine F.ok sc__law_whole (fun vs H Q E h => ?_) (fun cdv A outer s H0 vs Q E hr h => ?_)
  · obtain ⟨_, _, _, _, rfl, _⟩ := h; rfl
  · obtain ⟨B0, v_thing_here, a_thing_here, w, rfl, r_thing_here, P⟩ := h
    have w0 := w
    have hu := hu_of hr
    have hu64 := hu64_of hr
    refine ⟨_, (pss_one (ps_ret (pe_and (pe_callB (r := rIsi K) call_isi (by rfl) bI_isinstance PyProof.Rows.boot_isinstance (pa_cons (pv 0) (pa_cons (pe_bltn (v := .ty "int") (by rfl) bI_int Y.boot_int rfl) pa_nil))) (pe_one (pe_not (pe_callB (r := rIsi K) call_isi (by rfl) bI_isinstance PyProof.Rows.boot_isinstance (pa_cons (pv 0) (pa_cons (pe_bltn (v := .ty "bool") (by rfl) bI_bool Y.boot_bool rfl) pa_nil)))))))), ?_⟩
    unfold l_whole at P
    have st := Stp.refl (W := []) w
    refine h_ret ?_
    refine h_and ?_
    refine h_cb ?_
    refine h_cons ?_
    refine h_var rfl ?_
    refine h_cons ?_
    refine h_c ?_
    refine h_nil ?_
    refine isi (t := "int") w (r_thing_here.mono st.ex) ?_
    refine h_bl ?_
    refine h_ite (fun c1 => ?_) (fun c1 => ?_)
    · replace P := P.iteT c1
      refine h_not ?_
      refine h_cb ?_
      refine h_cons ?_
      refine h_var rfl ?_
      refine h_cons ?_
      refine h_c ?_
      refine h_nil ?_
      refine isi (t := "bool") w (r_thing_here.mono st.ex) ?_
      refine h_bl ?_
      exact P.ok _ _ _ st (Rep.bl _)
    · replace P := P.iteF c1
      exact P.ok _ _ _ st (Rep.bl _)
theorem ok__law_rule {f : Addr} {fd : FuncData}  (F : Fun K "_law_rule" "_law_rule" s__law_rule f fd) {f__law_draw : Addr} {d__law_draw : FuncData} (g__law_draw : mg "_law_draw" = some (.ref f__law_draw)) (k__law_draw : PySem.W.keepIn K (.ref f__law_draw) = true) (b__law_draw : L2.Binds K d__law_draw ["_law_well_here", "_law_many"] []) (G__law_draw : FnOk Pr wo K mg base CX0 1 f__law_draw d__law_draw ["_law_well_here", "_law_many"] (sp__law_draw K)) : FnOk Pr wo K mg base CX0 2 f fd ["_law_well_here"] (sp__law_rule K) := by
  refine F.ok sc__law_rule (fun vs H Q E h => ?_) (fun cdv A outer s H0 vs Q E hr h => ?_)
  · obtain ⟨_, _, _, _, rfl, _⟩ := h; rfl
  · obtain ⟨B0, p_well_here, a_well_here, w, rfl, m_well_here, P⟩ := h
    have w0 := w
    have hu := hu_of hr
    have hu64 := hu64_of hr
    have hr1 : Room 1 _ := hr.mono (by decide)
    refine ⟨_, (pss_cons (ps_set (i := 1) sc__law_rule.nd rfl (by first | exact Or.inl rfl | exact Or.inr rfl) (pe_call G__law_draw hr1 rfl g__law_draw k__law_draw b__law_draw .nil pass0 (pa_cons (pv 0) (pa_cons pe_int pa_nil))))
      (pss_cons (ps_if (pt_cmpR op_eq (pv 1) pe_int (nomark _)) (pss_one (ps_ret (pe_tup (pa_cons pe_str (pa_cons (pe_call G__law_draw hr1 rfl g__law_draw k__law_draw b__law_draw .nil pass0 (pa_cons (pv 0) (pa_cons pe_int pa_nil))) pa_nil))))) pss_nil)
      (pss_cons (ps_set (i := 2) sc__law_rule.nd rfl (by first | exact Or.inl rfl | exact Or.inr rfl) (pe_op op_add pe_int (pe_call G__law_draw hr1 rfl g__law_draw k__law_draw b__law_draw .nil pass0 (pa_cons (pv 0) (pa_cons pe_int pa_nil)))))
      (pss_cons (ps_set (i := 3) sc__law_rule.nd rfl (by first | exact Or.inl rfl | exact Or.inr rfl) (pe_call G__law_draw hr1 rfl g__law_draw k__law_draw b__law_draw .nil pass0 (pa_cons (pv 0) (pa_cons pe_int pa_nil))))
      (pss_cons (ps_if (pt_cmpR op_eq (pv 1) pe_int (nomark _)) (pss_one (ps_ret (pe_tup (pa_cons pe_str (pa_cons (pv 2) (pa_cons (pv 3) (pa_cons (pe_call G__law_draw hr1 rfl g__law_draw k__law_draw b__law_draw .nil pass0 (pa_cons (pv 0) (pa_cons pe_int pa_nil))) pa_nil))))))) pss_nil)
      (pss_one (ps_ret (pe_tup (pa_cons pe_str (pa_cons (pv 2) (pa_cons (pv 3) (pa_cons (pe_op op_add pe_int (pe_call G__law_draw hr1 rfl g__law_draw k__law_draw b__law_draw .nil pass0 (pa_cons (pv 0) (pa_cons pe_int pa_nil)))) (pa_cons (pe_call G__law_draw hr1 rfl g__law_draw k__law_draw b__law_draw .nil pass0 (pa_cons (pv 0) (pa_cons pe_int pa_nil))) pa_nil))))))))))))), ?_⟩
    unfold l_rule at P
    have st := Stp.refl (W := [p_well_here]) w
    refine h_set ?_
    refine h_call ?_
    refine h_cons ?_
    refine h_var rfl ?_
    refine h_cons ?_
    refine h_c ?_
    refine h_nil ?_
    refine ⟨B0, p_well_here, a_well_here, 3, w, rfl, m_well_here, (P.bind).mono (fun x1 P => ?_) (fun _ z => z)⟩
    refine fun v5 B2 H3 s4 m_well_here r6 => ?_
    replace st := st.go s4 (go1 (.inl (by simp)))
    replace w := s4.ok
    cases r6
    refine h_seq <| h_if ?_
    refine h_test ?_
    refine h_op ?_
    refine h_var rfl ?_
    refine h_c ?_
    refine h_eqI ?_
    refine h_bl ?_
    refine h_ite (fun c1 => ?_) (fun c1 => ?_)
    · replace P := P.iteT c1
      refine h_ret ?_
      refine h_tup ?_
      refine h_cons ?_
      refine h_c ?_
      refine h_cons ?_
      refine h_call ?_
      refine h_cons ?_
      refine h_var rfl ?_
      refine h_cons ?_
      refine h_c ?_
      refine h_nil ?_
      refine ⟨B2, p_well_here, x1.2, 256, w, rfl, m_well_here, (P.bind).mono (fun x7 P => ?_) (fun _ z => z)⟩
      refine fun v11 B8 H9 s10 m_well_here r12 => ?_
      replace st := st.go s10 (go1 (.inl (by simp)))
      replace w := s10.ok
      cases r12
      refine h_nil ?_
      refine h_newT w (K := K) (.cons (Rep.str _) (.cons (Rep.int _) .nil)) (fun p13 B14 H15 s16 r17 => ?_) (by show 2 ≤ sizeLine; decide)
      replace m_well_here := m_well_here.step s16 nm0
      replace st := st.go s16 go0
      replace w := s16.ok
      replace r17 : Rep K B14 (.ref p13) (enc (⟨("plain" : Str), x7.1⟩ : (Tp2 Str Int))) := r17
      exact P.ok _ _ _ st m_well_here r17
    · replace P := P.iteF c1
      refine h_next ?_
      refine h_nx ?_
      refine h_set ?_
      refine h_op ?_
      refine h_c ?_
      refine h_call ?_
      refine h_cons ?_
      refine h_var rfl ?_
      refine h_cons ?_
      refine h_c ?_
      refine h_nil ?_
      refine ⟨B2, p_well_here, x1.2, 200, w, rfl, m_well_here, (P.bind).mono (fun x18 P => ?_) (fun _ z => z)⟩
      refine fun v22 B19 H20 s21 m_well_here r23 => ?_
      replace st := st.go s21 (go1 (.inl (by simp)))
      replace w := s21.ok
      cases r23
      refine h_I0 ?_
      replace P := P.lt
      generalize hx : (1 + x18.1) = x24 at P ⊢
      refine h_set ?_
      refine h_call ?_
      refine h_cons ?_
      refine h_var rfl ?_
      refine h_cons ?_
      refine h_c ?_
      refine h_nil ?_
      refine ⟨B19, p_well_here, x18.2, 16, w, rfl, m_well_here, (P.bind).mono (fun x25 P => ?_) (fun _ z => z)⟩
      refine fun v29 B26 H27 s28 m_well_here r30 => ?_
      replace st := st.go s28 (go1 (.inl (by simp)))
      replace w := s28.ok
      cases r30
      refine h_seq <| h_if ?_
      refine h_test ?_
      refine h_op ?_
      refine h_var rfl ?_
      refine h_c ?_
      refine h_eqI ?_
      refine h_bl ?_
      refine h_ite (fun c1 => ?_) (fun c1 => ?_)
      · replace P := P.iteT c1
        refine h_ret ?_
        refine h_tup ?_
        refine h_cons ?_
        refine h_c ?_
        refine h_cons ?_
        refine h_var rfl ?_
        refine h_cons ?_
        refine h_var rfl ?_
        refine h_cons ?_
        refine h_call ?_
        refine h_cons ?_
        refine h_var rfl ?_
        refine h_cons ?_
        refine h_c ?_
        refine h_nil ?_
        refine ⟨B26, p_well_here, x25.2, 256, w, rfl, m_well_here, (P.bind).mono (fun x31 P => ?_) (fun _ z => z)⟩
        refine fun v35 B32 H33 s34 m_well_here r36 => ?_
        replace st := st.go s34 (go1 (.inl (by simp)))
        replace w := s34.ok
        cases r36
        refine h_nil ?_
        refine h_newT w (K := K) (.cons (Rep.str _) (.cons (Rep.int _) (.cons (Rep.int _) (.cons (Rep.int _) .nil)))) (fun p37 B38 H39 s40 r41 => ?_) (by show 4 ≤ sizeLine; decide)
        replace m_well_here := m_well_here.step s40 nm0
        replace st := st.go s40 go0
        replace w := s40.ok
        replace r41 : Rep K B38 (.ref p37) (enc (⟨("moved" : Str), x24, x25.1, x31.1⟩ : (Tp4 Str Int Int Int))) := r41
        exact P.ok _ _ _ st m_well_here r41
      · replace P := P.iteF c1
        refine h_next ?_
        refine h_nx ?_
        refine h_ret ?_
        refine h_tup ?_
        refine h_cons ?_
        refine h_c ?_
        refine h_cons ?_
        refine h_var rfl ?_
        refine h_cons ?_
        refine h_var rfl ?_
        refine h_cons ?_
        refine h_op ?_
        refine h_c ?_
        refine h_call ?_
        refine h_cons ?_
        refine h_var rfl ?_
        refine h_cons ?_
        refine h_c ?_
        refine h_nil ?_
        refine ⟨B26, p_well_here, x25.2, 200, w, rfl, m_well_here, (P.bind).mono (fun x42 P => ?_) (fun _ z => z)⟩
        refine fun v46 B43 H44 s45 m_well_here r47 => ?_
        replace st := st.go s45 (go1 (.inl (by simp)))
        replace w := s45.ok
        cases r47
        refine h_I0 ?_
        refine h_cons ?_
        refine h_call ?_
        refine h_cons ?_
        refine h_var rfl ?_
        refine h_cons ?_
        refine h_c ?_
        refine h_nil ?_
        refine ⟨B43, p_well_here, x42.2, 16, w, rfl, m_well_here, (P.bind).mono (fun x48 P => ?_) (fun _ z => z)⟩
        refine fun v52 B49 H50 s51 m_well_here r53 => ?_
        replace st := st.go s51 (go1 (.inl (by simp)))
        replace w := s51.ok
        cases r53
        refine h_nil ?_
        refine h_newT w (K := K) (.cons (Rep.str _) (.cons (Rep.int _) (.cons (Rep.int _) (.cons (Rep.int _) (.cons (Rep.int _) .nil))))) (fun p54 B55 H56 s57 r58 => ?_) (by show 5 ≤ sizeLine; decide)
        replace m_well_here := m_well_here.step s57 nm0
        replace st := st.go s57 go0
        replace w := s57.ok
        replace r58 : Rep K B55 (.ref p54) (enc (⟨("mixed" : Str), x24, x25.1, (1 + x42.1), x48.1⟩ : (Tp5 Str Int Int Int Int))) := r58
        exact P.ok _ _ _ st m_well_here r58
theorem ok__law_leaf {f : Addr} {fd : FuncData}  (F : Fun K "_law_leaf" "_law_leaf" s__law_leaf f fd) {f__law_draw : Addr} {d__law_draw : FuncData} (g__law_draw : mg "_law_draw" = some (.ref f__law_draw)) (k__law_draw : PySem.W.keepIn K (.ref f__law_draw) = true) (b__law_draw : L2.Binds K d__law_draw ["_law_well_here", "_law_many"] []) (G__law_draw : FnOk Pr wo K mg base CX0 1 f__law_draw d__law_draw ["_law_well_here", "_law_many"] (sp__law_draw K)) {f__law_rule : Addr} {d__law_rule : FuncData} (g__law_rule : mg "_law_rule" = some (.ref f__law_rule)) (k__law_rule : PySem.W.keepIn K (.ref f__law_rule) = true) (b__law_rule : L2.Binds K d__law_rule ["_law_well_here"] []) (G__law_rule : FnOk Pr wo K mg base CX0 2 f__law_rule d__law_rule ["_law_well_here"] (sp__law_rule K)) (bI_tuple : mg "tuple" = none) (bI_range : mg "range" = none) : FnOk Pr wo K mg base CX0 3 f fd ["_law_well_here"] (sp__law_leaf K) := by
  refine F.ok sc__law_leaf (fun vs H Q E h => ?_) (fun cdv A outer s H0 vs Q E hr h => ?_)
  · obtain ⟨_, _, _, _, rfl, _⟩ := h; rfl
  · obtain ⟨B0, p_well_here, a_well_here, w, rfl, m_well_here, P⟩ := h
    have w0 := w
    have hu := hu_of hr
    have hu64 := hu64_of hr
    have hr1 : Room 1 _ := hr.mono (by decide)
    have hr2 : Room 2 _ := hr.mono (by decide)
    refine ⟨_, (pss_cons (ps_set (i := 1) sc__law_leaf.nd rfl (by first | exact Or.inl rfl | exact Or.inr rfl) (pe_call G__law_draw hr1 rfl g__law_draw k__law_draw b__law_draw .nil pass0 (pa_cons (pv 0) (pa_cons pe_int pa_nil))))
      (pss_cons (ps_set (i := 2) sc__law_leaf.nd rfl (by first | exact Or.inl rfl | exact Or.inr rfl) (pe_op op_add pe_int (pe_call G__law_draw hr1 rfl g__law_draw k__law_draw b__law_draw .nil pass0 (pa_cons (pv 0) (pa_cons pe_int pa_nil)))))
      (pss_cons (ps_if (pt_cmpR op_eq (pe_call G__law_draw hr1 rfl g__law_draw k__law_draw b__law_draw .nil pass0 (pa_cons (pv 0) (pa_cons pe_int pa_nil))) pe_int (nomark _)) (pss_one (ps_set (i := 2) sc__law_leaf.nd rfl (by first | exact Or.inl rfl | exact Or.inr rfl) pe_int)) pss_nil)
      (pss_cons (ps_set (i := 3) sc__law_leaf.nd rfl (by first | exact Or.inl rfl | exact Or.inr rfl) (pe_call G__law_draw hr1 rfl g__law_draw k__law_draw b__law_draw .nil pass0 (pa_cons (pv 0) (pa_cons (pe_op op_add (pe_op op_pow pe_int pe_int) pe_int) pa_nil))))
      (pss_cons (ps_set (i := 4) sc__law_leaf.nd rfl (by first | exact Or.inl rfl | exact Or.inr rfl) (pe_op op_add pe_int (pe_call G__law_draw hr1 rfl g__law_draw k__law_draw b__law_draw .nil pass0 (pa_cons (pv 0) (pa_cons (pe_op op_pow pe_int pe_int) pa_nil)))))
      (pss_cons (ps_if (pt_cmpR op_eq (pv 1) pe_int (nomark _)) (pss_one (ps_ret (pe_tup (pa_cons pe_str (pa_cons (pv 3) (pa_cons (pv 4) (pa_cons (pe_callTy (r := rTupY K) cr_tuple (by rfl) bI_tuple Y.boot_tuple (pa_cons (pe_lc (own := [("_law_k", 5)]) rfl sc__law_leaf.nd (pi_range1 (by rfl) bI_range (pa_cons (pv 2) pa_nil)) (blkOk_by (N := ["_law_well_here", "_law_way", "_law_wide", "_law_begin", "_law_span", "_law_k"]) (sc := defScope s__law_leaf) (by decide +kernel)) (fun _ _ _ _ _ => (pg_name (i := 5) sc__law_leaf.nd rfl (by first | exact Or.inl rfl | exact Or.inr rfl))) (fun _ _ _ _ _ => pts_nil) (fun _ _ _ _ _ => (pe_call G__law_draw hr1 rfl g__law_draw k__law_draw b__law_draw .nil pass0 (pa_cons (pv 0) (pa_cons pe_int pa_nil))))) pa_nil)) pa_nil))))))) pss_nil)
      (pss_cons (ps_if (pt_cmpR op_eq (pv 1) pe_int (nomark _)) (pss_one (ps_ret (pe_tup (pa_cons pe_str (pa_cons (pv 3) (pa_cons (pv 4) (pa_cons (pe_op op_add pe_int (pe_call G__law_draw hr1 rfl g__law_draw k__law_draw b__law_draw .nil pass0 (pa_cons (pv 0) (pa_cons pe_int pa_nil)))) pa_nil))))))) pss_nil)
      (pss_one (ps_ret (pe_tup (pa_cons pe_str (pa_cons (pv 3) (pa_cons (pv 4) (pa_cons (pe_callTy (r := rTupY K) cr_tuple (by rfl) bI_tuple Y.boot_tuple (pa_cons (pe_lc (own := [("_law_k", 5)]) rfl sc__law_leaf.nd (pi_range1 (by rfl) bI_range (pa_cons (pv 2) pa_nil)) (blkOk_by (N := ["_law_well_here", "_law_way", "_law_wide", "_law_begin", "_law_span", "_law_k"]) (sc := defScope s__law_leaf) (by decide +kernel)) (fun _ _ _ _ _ => (pg_name (i := 5) sc__law_leaf.nd rfl (by first | exact Or.inl rfl | exact Or.inr rfl))) (fun _ _ _ _ _ => pts_nil) (fun _ _ _ _ _ => (pe_call G__law_rule hr2 rfl g__law_rule k__law_rule b__law_rule .nil pass0 (pa_cons (pv 0) pa_nil)))) pa_nil)) pa_nil)))))))))))))), ?_⟩
    unfold l_leaf at P
    have st := Stp.refl (W := [p_well_here]) w
    refine h_set ?_
    refine h_call ?_
    refine h_cons ?_
    refine h_var rfl ?_
    refine h_cons ?_
    refine h_c ?_
    refine h_nil ?_
    refine ⟨B0, p_well_here, a_well_here, 3, w, rfl, m_well_here, (P.bind).mono (fun x1 P => ?_) (fun _ z => z)⟩
    refine fun v5 B2 H3 s4 m_well_here r6 => ?_
    replace st := st.go s4 (go1 (.inl (by simp)))
    replace w := s4.ok
    cases r6
    refine h_set ?_
    refine h_op ?_
    refine h_c ?_
    refine h_call ?_
    refine h_cons ?_
    refine h_var rfl ?_
    refine h_cons ?_
    refine h_c ?_
    refine h_nil ?_
    refine ⟨B2, p_well_here, x1.2, 16, w, rfl, m_well_here, (P.bind).mono (fun x7 P => ?_) (fun _ z => z)⟩
    refine fun v11 B8 H9 s10 m_well_here r12 => ?_
    replace st := st.go s10 (go1 (.inl (by simp)))
    replace w := s10.ok
    cases r12
    refine h_I0 ?_
    replace P := P.lt
    generalize hx : (1 + x7.1) = x13 at P ⊢
    have wj15 := w
    have sj14 := Stp.refl (W := [p_well_here]) w
    refine h_joinS P (fun (a : Int × (List Int)) σ' H' => ∃ (B' : Hp), Stp [p_well_here] B8 H9 B' H' ∧ σ' = [some ((.ref p_well_here)), some (.int x1.1), some (.int a.1), none, none, none] ∧ Mu K B' H' p_well_here (a.2.map enc)) (fun N kk16 P => h_if ?_) ?_
    · skip
      refine h_test ?_
      refine h_op ?_
      refine h_call ?_
      refine h_cons ?_
      refine h_var rfl ?_
      refine h_cons ?_
      refine h_c ?_
      refine h_nil ?_
      refine ⟨B8, p_well_here, x7.2, 8, w, rfl, m_well_here, (P.bind).mono (fun x17 P => ?_) (fun _ z => z)⟩
      refine fun v21 B18 H19 s20 m_well_here r22 => ?_
      replace st := st.go s20 (go1 (.inl (by simp)))
      replace sj14 := sj14.go s20 (go1 (.inl (by simp)))
      replace w := s20.ok
      cases r22
      refine h_c ?_
      refine h_eqI ?_
      refine h_bl ?_
      refine h_ite (fun c1 => ?_) (fun c1 => ?_)
      · replace P := P.iteT c1
        refine h_set1 ?_
        refine h_c ?_
        refine h_nx ?_
        exact kk16 (17, x17.2) _ _ ⟨_, sj14, rfl, m_well_here⟩ P.ok
      · replace P := P.iteF c1
        refine h_next ?_
        refine h_nx ?_
        exact kk16 (x13, x17.2) _ _ ⟨_, sj14, rfl, m_well_here⟩ P.ok
    rintro a23 _ H25 ⟨B24, s26, rfl, m_well_here⟩ P
    replace st := st.go s26 (go1 (.inl (by simp)))
    replace w := s26.ok
    refine h_set ?_
    refine h_call ?_
    refine h_cons ?_
    refine h_var rfl ?_
    refine h_cons ?_
    refine h_op ?_
    refine h_op (h_c (h_c (h_pow (k := 1000000000) (by decide +kernel) (by decide +kernel) ?_)))
    refine h_c ?_
    refine h_I0 ?_
    refine h_nil ?_
    refine ⟨B24, p_well_here, a23.2, (1000000000 + 1), w, rfl, m_well_here, (P.bind).mono (fun x27 P => ?_) (fun _ z => z)⟩
    refine fun v31 B28 H29 s30 m_well_here r32 => ?_
    replace st := st.go s30 (go1 (.inl (by simp)))
    replace w := s30.ok
    cases r32
    refine h_set ?_
    refine h_op ?_
    refine h_c ?_
    refine h_call ?_
    refine h_cons ?_
    refine h_var rfl ?_
    refine h_cons ?_
    refine h_op (h_c (h_c (h_pow (k := 1000000000) (by decide +kernel) (by decide +kernel) ?_)))
    refine h_nil ?_
    refine ⟨B28, p_well_here, x27.2, 1000000000, w, rfl, m_well_here, (P.bind).mono (fun x33 P => ?_) (fun _ z => z)⟩
    refine fun v37 B34 H35 s36 m_well_here r38 => ?_
    replace st := st.go s36 (go1 (.inl (by simp)))
    replace w := s36.ok
    cases r38
    refine h_I0 ?_
    replace P := P.lt
    generalize hx : (1 + x33.1) = x39 at P ⊢
    refine h_seq <| h_if ?_
    refine h_test ?_
    refine h_op ?_
    refine h_var rfl ?_
    refine h_c ?_
    refine h_eqI ?_
    refine h_bl ?_
    refine h_ite (fun c1 => ?_) (fun c1 => ?_)
    · replace P := P.iteT c1
      refine h_ret ?_
      refine h_tup ?_
      refine h_cons ?_
      refine h_c ?_
      refine h_cons ?_
      refine h_var rfl ?_
      refine h_cons ?_
      refine h_var rfl ?_
      refine h_cons ?_
      refine h_cb ?_
      refine h_cons ?_
      refine h_lcR1E ?_
      refine h_cons ?_
      refine h_var rfl ?_
      refine h_nil ?_
      obtain ⟨gz40, P⟩ := P.guard
      refine h_lcR1 P (fun Dl (acc : List Int) (a : (List Int)) H' => ∃ B', Stp [p_well_here] B34 H35 B' H' ∧ H35 Dl = none ∧ Mu K B' H' Dl (acc.map enc) ∧ p_well_here ≠ Dl ∧ Mu K B' H' p_well_here (a.map enc)) (fun Dl hD => ⟨_, Stp.newM w hD, hD, Mu.new w hD .nil, Mu.ne m_well_here hD, m_well_here.step (Stp.newM (W := []) w hD) nm0⟩) ?_ ?_ gz40
      · rintro Dl41 N42 T43 x44 acc47 a48 H49 ⟨B50, s51, hD52, m53, ne57, m_well_here⟩ hlox44 hhix44 hz54 kk55 kn56 P
        have wj59 := w
        have sj58 := s51
        have n60 := st.nn hD52
        replace st := st.go s51 (go1 (.inl (by simp)))
        replace w := s51.ok
        refine h_gname ?_
        refine h_lcT rfl ?_
        refine h_call ?_
        refine h_cons ?_
        refine h_var rfl ?_
        refine h_cons ?_
        refine h_c ?_
        refine h_nil ?_
        refine ⟨B50, p_well_here, a48, 256, w, rfl, m_well_here, (P.bind).mono (fun x61 P => ?_) (fun _ z => z)⟩
        refine fun v65 B62 H63 s64 m_well_here r66 => ?_
        replace m53 := m53.step s64 (nm1 ne57.symm)
        replace st := st.go s64 (go1 (.inl (by simp)))
        replace sj58 := sj58.go s64 (go1 (.inl (by simp)))
        replace w := s64.ok
        cases r66
        refine h_app (b := x61.1) w m53 (Rep.int _) hz54 (fun H67 s68 m53 => ?_)
        replace m_well_here := m_well_here.step s68 (nm1 ne57)
        replace st := st.go s68 (go1 (.inr n60))
        replace sj58 := sj58.go s68 (go1 (.inr hD52))
        replace w := s68.ok
        exact kk55 x61.1 x61.2 _ ⟨_, sj58, hD52, m53, ne57, m_well_here⟩ P.ok
      · rintro Dl41 acc47 a48 H49 ⟨B50, s51, hD52, m53, ne57, m_well_here⟩ P
        have n69 := st.nn hD52
        replace st := st.go s51 (go1 (.inl (by simp)))
        replace w := s51.ok
        replace P := P.un2
        obtain ⟨B74, e70, k71, g72, r73⟩ := Mu.keep m53
        replace st := g72 _ _ _ st w0 n69
        replace m_well_here := m_well_here.kp e70 k71 ne57
        replace w := st.ok
        replace r73 : Rep K B74 (.ref Dl41) (enc acc47) := r73
        refine h_nil ?_
        obtain ⟨p75, xs76, hv, hs77, hr78⟩ := Rep.sq w r73
        cases hv
        refine h_tupL hs77 (h_nwT w (K := K) hr78 (fun p79 B80 H81 s82 r83 => ?_))
        replace m_well_here := m_well_here.step s82 nm0
        replace st := st.go s82 go0
        replace w := s82.ok
        refine h_nil ?_
        refine h_newT w (K := K) (.cons (Rep.str _) (.cons (Rep.int _) (.cons (Rep.int _) (.cons r83 .nil)))) (fun p84 B85 H86 s87 r88 => ?_) (by show 4 ≤ sizeLine; decide)
        replace m_well_here := m_well_here.step s87 nm0
        replace st := st.go s87 go0
        replace w := s87.ok
        replace r88 : Rep K B85 (.ref p84) (enc (⟨("full" : Str), x27.1, x39, (.tup (acc47.map enc) : D)⟩ : (Tp4 Str Int Int D))) := r88
        exact P.ok _ _ _ st m_well_here r88
    · replace P := P.iteF c1
      refine h_next ?_
      refine h_nx ?_
      refine h_seq <| h_if ?_
      refine h_test ?_
      refine h_op ?_
      refine h_var rfl ?_
      refine h_c ?_
      refine h_eqI ?_
      refine h_bl ?_
      refine h_ite (fun c1 => ?_) (fun c1 => ?_)
      · replace P := P.iteT c1
        refine h_ret ?_
        refine h_tup ?_
        refine h_cons ?_
        refine h_c ?_
        refine h_cons ?_
        refine h_var rfl ?_
        refine h_cons ?_
        refine h_var rfl ?_
        refine h_cons ?_
        refine h_op ?_
        refine h_c ?_
        refine h_call ?_
        refine h_cons ?_
        refine h_var rfl ?_
        refine h_cons ?_
        refine h_c ?_
        refine h_nil ?_
        refine ⟨B34, p_well_here, x33.2, 200, w, rfl, m_well_here, (P.bind).mono (fun x89 P => ?_) (fun _ z => z)⟩
        refine fun v93 B90 H91 s92 m_well_here r94 => ?_
        replace st := st.go s92 (go1 (.inl (by simp)))
        replace w := s92.ok
        cases r94
        refine h_I0 ?_
        refine h_nil ?_
        refine h_newT w (K := K) (.cons (Rep.str _) (.cons (Rep.int _) (.cons (Rep.int _) (.cons (Rep.int _) .nil)))) (fun p95 B96 H97 s98 r99 => ?_) (by show 4 ≤ sizeLine; decide)
        replace m_well_here := m_well_here.step s98 nm0
        replace st := st.go s98 go0
        replace w := s98.ok
        replace r99 : Rep K B96 (.ref p95) (enc (⟨("still" : Str), x27.1, x39, (1 + x89.1)⟩ : (Tp4 Str Int Int Int))) := r99
        exact P.ok _ _ _ st m_well_here r99
      · replace P := P.iteF c1
        refine h_next ?_
        refine h_nx ?_
        refine h_ret ?_
        refine h_tup ?_
        refine h_cons ?_
        refine h_c ?_
        refine h_cons ?_
        refine h_var rfl ?_
        refine h_cons ?_
        refine h_var rfl ?_
        refine h_cons ?_
        refine h_cb ?_
        refine h_cons ?_
        refine h_lcR1E ?_
        refine h_cons ?_
        refine h_var rfl ?_
        refine h_nil ?_
        obtain ⟨gz100, P⟩ := P.guard
        refine h_lcR1 P (fun Dl (acc : List D) (a : (List Int)) H' => ∃ B', Stp [p_well_here] B34 H35 B' H' ∧ H35 Dl = none ∧ Mu K B' H' Dl (acc.map enc) ∧ p_well_here ≠ Dl ∧ Mu K B' H' p_well_here (a.map enc)) (fun Dl hD => ⟨_, Stp.newM w hD, hD, Mu.new w hD .nil, Mu.ne m_well_here hD, m_well_here.step (Stp.newM (W := []) w hD) nm0⟩) ?_ ?_ gz100
        · rintro Dl101 N102 T103 x104 acc107 a108 H109 ⟨B110, s111, hD112, m113, ne117, m_well_here⟩ hlox104 hhix104 hz114 kk115 kn116 P
          have wj119 := w
          have sj118 := s111
          have n120 := st.nn hD112
          replace st := st.go s111 (go1 (.inl (by simp)))
          replace w := s111.ok
          refine h_gname ?_
          refine h_lcT rfl ?_
          refine h_call ?_
          refine h_cons ?_
          refine h_var rfl ?_
          refine h_nil ?_
          refine ⟨B110, p_well_here, a108, w, rfl, m_well_here, (P.bind).mono (fun x121 P => ?_) (fun _ z => z)⟩
          refine fun v125 B122 H123 s124 m_well_here r126 => ?_
          replace m113 := m113.step s124 (nm1 ne117.symm)
          replace st := st.go s124 (go1 (.inl (by simp)))
          replace sj118 := sj118.go s124 (go1 (.inl (by simp)))
          replace w := s124.ok
          refine h_app (b := x121.1) w m113 r126 hz114 (fun H127 s128 m113 => ?_)
          replace m_well_here := m_well_here.step s128 (nm1 ne117)
          replace st := st.go s128 (go1 (.inr n120))
          replace sj118 := sj118.go s128 (go1 (.inr hD112))
          replace w := s128.ok
          exact kk115 x121.1 x121.2 _ ⟨_, sj118, hD112, m113, ne117, m_well_here⟩ P.ok
        · rintro Dl101 acc107 a108 H109 ⟨B110, s111, hD112, m113, ne117, m_well_here⟩ P
          have n129 := st.nn hD112
          replace st := st.go s111 (go1 (.inl (by simp)))
          replace w := s111.ok
          replace P := P.un2
          obtain ⟨B134, e130, k131, g132, r133⟩ := Mu.keep m113
          replace st := g132 _ _ _ st w0 n129
          replace m_well_here := m_well_here.kp e130 k131 ne117
          replace w := st.ok
          replace r133 : Rep K B134 (.ref Dl101) (enc acc107) := r133
          refine h_nil ?_
          obtain ⟨p135, xs136, hv, hs137, hr138⟩ := Rep.sq w r133
          cases hv
          refine h_tupL hs137 (h_nwT w (K := K) hr138 (fun p139 B140 H141 s142 r143 => ?_))
          replace m_well_here := m_well_here.step s142 nm0
          replace st := st.go s142 go0
          replace w := s142.ok
          refine h_nil ?_
          refine h_newT w (K := K) (.cons (Rep.str _) (.cons (Rep.int _) (.cons (Rep.int _) (.cons r143 .nil)))) (fun p144 B145 H146 s147 r148 => ?_) (by show 4 ≤ sizeLine; decide)
          replace m_well_here := m_well_here.step s147 nm0
          replace st := st.go s147 go0
          replace w := s147.ok
          replace r148 : Rep K B145 (.ref p144) (enc (⟨("woven" : Str), x27.1, x39, (.tup (acc107.map enc) : D)⟩ : (Tp4 Str Int Int D))) := r148
          exact P.ok _ _ _ st m_well_here r148
theorem ok__law_odd_number {f : Addr} {fd : FuncData}  (F : Fun K "_law_odd_number" "_law_odd_number" s__law_odd_number f fd) {f__law_draw : Addr} {d__law_draw : FuncData} (g__law_draw : mg "_law_draw" = some (.ref f__law_draw)) (k__law_draw : PySem.W.keepIn K (.ref f__law_draw) = true) (b__law_draw : L2.Binds K d__law_draw ["_law_well_here", "_law_many"] []) (G__law_draw : FnOk Pr wo K mg base CX0 1 f__law_draw d__law_draw ["_law_well_here", "_law_many"] (sp__law_draw K)) : FnOk Pr wo K mg base CX0 2 f fd ["_law_well_here"] (sp__law_odd_number K) := by
  refine F.ok sc__law_odd_number (fun vs H Q E h => ?_) (fun cdv A outer s H0 vs Q E hr h => ?_)
  · obtain ⟨_, _, _, _, rfl, _⟩ := h; rfl
  · obtain ⟨B0, p_well_here, a_well_here, w, rfl, m_well_here, P⟩ := h
    have w0 := w
    have hu := hu_of hr
    have hu64 := hu64_of hr
    have hr1 : Room 1 _ := hr.mono (by decide)
    refine ⟨_, (pss_cons (ps_set (i := 1) sc__law_odd_number.nd rfl (by first | exact Or.inl rfl | exact Or.inr rfl) (pe_call G__law_draw hr1 rfl g__law_draw k__law_draw b__law_draw .nil pass0 (pa_cons (pv 0) (pa_cons pe_int pa_nil))))
      (pss_cons (ps_set (i := 2) sc__law_odd_number.nd rfl (by first | exact Or.inl rfl | exact Or.inr rfl) (pe_lst (pa_cons (pe_un un_neg pe_int) (pa_cons pe_int (pa_cons pe_int (pa_cons pe_int (pa_cons pe_int (pa_cons pe_int (pa_cons pe_int (pa_cons pe_bl (pa_cons pe_bl (pa_cons pe_non (pa_cons pe_str (pa_cons (pe_tup (pa_cons pe_int pa_nil)) (pa_cons (pe_op op_pow pe_int pe_int) (pa_cons (pe_op op_add (pe_op op_pow pe_int pe_int) pe_int) (pa_cons pe_int pa_nil)))))))))))))))))
      (pss_cons (ps_if (pt_cmpR op_lt (pv 1) pe_int (nomark _)) (pss_one (ps_ret (pe_ix (r := rIxL K) ix_list (pv 2) (pv 1) (fun _ _ => rfl)))) pss_nil)
      (pss_one (ps_ret (pe_op op_add pe_int (pe_call G__law_draw hr1 rfl g__law_draw k__law_draw b__law_draw .nil pass0 (pa_cons (pv 0) (pa_cons (pe_op op_mul pe_int (pe_op op_pow pe_int pe_int)) pa_nil))))))))), ?_⟩
    unfold l_odd_number at P
    have st := Stp.refl (W := [p_well_here]) w
    refine h_set ?_
    refine h_call ?_
    refine h_cons ?_
    refine h_var rfl ?_
    refine h_cons ?_
    refine h_c ?_
    refine h_nil ?_
    refine ⟨B0, p_well_here, a_well_here, 16, w, rfl, m_well_here, (P.bind).mono (fun x1 P => ?_) (fun _ z => z)⟩
    refine fun v5 B2 H3 s4 m_well_here r6 => ?_
    replace st := st.go s4 (go1 (.inl (by simp)))
    replace w := s4.ok
    cases r6
    refine h_set ?_
    refine h_lst ?_
    refine h_cons ?_
    refine h_un ?_
    refine h_c ?_
    refine h_U ?_
    refine h_cons ?_
    refine h_c ?_
    refine h_cons ?_
    refine h_c ?_
    refine h_cons ?_
    refine h_c ?_
    refine h_cons ?_
    refine h_c ?_
    refine h_cons ?_
    refine h_c ?_
    refine h_cons ?_
    refine h_c ?_
    refine h_cons ?_
    refine h_c ?_
    refine h_cons ?_
    refine h_c ?_
    refine h_cons ?_
    refine h_c ?_
    refine h_cons ?_
    refine h_c ?_
    refine h_cons ?_
    refine h_tup ?_
    refine h_cons ?_
    refine h_c ?_
    refine h_nil ?_
    refine h_newT w (K := K) (.cons (Rep.int _) .nil) (fun p7 B8 H9 s10 r11 => ?_) (by show 1 ≤ sizeLine; decide)
    replace m_well_here := m_well_here.step s10 nm0
    replace st := st.go s10 go0
    replace w := s10.ok
    replace r11 : Rep K B8 (.ref p7) (enc (⟨7⟩ : (Tp1 Int))) := r11
    refine h_cons ?_
    refine h_op (h_c (h_c (h_pow (k := 1000000000) (by decide +kernel) (by decide +kernel) ?_)))
    refine h_cons ?_
    refine h_op ?_
    refine h_op (h_c (h_c (h_pow (k := 1000000000) (by decide +kernel) (by decide +kernel) ?_)))
    refine h_c ?_
    refine h_I0 ?_
    refine h_cons ?_
    refine h_c ?_
    refine h_nil ?_
    refine h_newL w (ds := (([(enc ((-1) : Int)), (enc (0 : Int)), (enc (16 : Int)), (enc (200 : Int)), (enc (201 : Int)), (enc (255 : Int)), (enc (256 : Int)), (enc true), (enc false), (enc ()), (enc ("7" : Str)), (enc (⟨7⟩ : (Tp1 Int))), (enc (1000000000 : Int)), (enc ((1000000000 + 1) : Int)), (enc (15 : Int))] : List D)).map enc) (K := K) (.cons (Rep.int _) (.cons (Rep.int _) (.cons (Rep.int _) (.cons (Rep.int _) (.cons (Rep.int _) (.cons (Rep.int _) (.cons (Rep.int _) (.cons (Rep.bl _) (.cons (Rep.bl _) (.cons Rep.non (.cons (Rep.str _) (.cons r11 (.cons (Rep.int _) (.cons (Rep.int _) (.cons (Rep.int _) .nil))))))))))))))) (fun p12 B13 H14 s15 r16 => ?_) (by show 15 ≤ sizeLine; decide)
    replace m_well_here := m_well_here.step s15 nm0
    replace st := st.go s15 go0
    replace w := s15.ok
    replace r16 : Rep K B13 (.ref p12) (enc ([(enc ((-1) : Int)), (enc (0 : Int)), (enc (16 : Int)), (enc (200 : Int)), (enc (201 : Int)), (enc (255 : Int)), (enc (256 : Int)), (enc true), (enc false), (enc ()), (enc ("7" : Str)), (enc (⟨7⟩ : (Tp1 Int))), (enc (1000000000 : Int)), (enc ((1000000000 + 1) : Int)), (enc (15 : Int))] : List D)) := r16
    refine h_seq <| h_if ?_
    refine h_test ?_
    refine h_op ?_
    refine h_var rfl ?_
    refine h_c ?_
    refine h_I0 ?_
    refine h_bl ?_
    refine h_ite (fun c1 => ?_) (fun c1 => ?_)
    · replace P := P.iteT c1
      refine h_ret ?_
      refine h_op ?_
      refine h_var rfl ?_
      refine h_var rfl ?_
      obtain ⟨p17, xs18, hv, hs19, hr20⟩ := Rep.sq w r16
      cases hv
      obtain ⟨x21, hx22, P⟩ := P.ix
      obtain ⟨u23, hu, r24⟩ := RepL.atE hr20 hx22
      refine h_ixL hs19 hu ?_
      exact P.ok _ _ _ st m_well_here r24
    · replace P := P.iteF c1
      refine h_next ?_
      refine h_nx ?_
      refine h_ret ?_
      refine h_op ?_
      refine h_c ?_
      refine h_call ?_
      refine h_cons ?_
      refine h_var rfl ?_
      refine h_cons ?_
      refine h_op ?_
      refine h_c ?_
      refine h_op (h_c (h_c (h_pow (k := 1000000000) (by decide +kernel) (by decide +kernel) ?_)))
      refine h_I (.inl ⟨by decide +kernel, by decide +kernel⟩) ?_
      refine h_nil ?_
      refine ⟨B13, p_well_here, x1.2, (2 * 1000000000), w, rfl, m_well_here, (P.bind).mono (fun x25 P => ?_) (fun _ z => z)⟩
      refine fun v29 B26 H27 s28 m_well_here r30 => ?_
      replace r16 := r16.mono s28.ex
      replace st := st.go s28 (go1 (.inl (by simp)))
      replace w := s28.ok
      cases r30
      refine h_I0 ?_
      exact P.ok _ _ _ st m_well_here (Rep.int _)
theorem ok__law_odd_part {f : Addr} {fd : FuncData}  (F : Fun K "_law_odd_part" "_law_odd_part" s__law_odd_part f fd) {f__law_draw : Addr} {d__law_draw : FuncData} (g__law_draw : mg "_law_draw" = some (.ref f__law_draw)) (k__law_draw : PySem.W.keepIn K (.ref f__law_draw) = true) (b__law_draw : L2.Binds K d__law_draw ["_law_well_here", "_law_many"] []) (G__law_draw : FnOk Pr wo K mg base CX0 1 f__law_draw d__law_draw ["_law_well_here", "_law_many"] (sp__law_draw K)) {f__law_odd_number : Addr} {d__law_odd_number : FuncData} (g__law_odd_number : mg "_law_odd_number" = some (.ref f__law_odd_number)) (k__law_odd_number : PySem.W.keepIn K (.ref f__law_odd_number) = true) (b__law_odd_number : L2.Binds K d__law_odd_number ["_law_well_here"] []) (G__law_odd_number : FnOk Pr wo K mg base CX0 2 f__law_odd_number d__law_odd_number ["_law_well_here"] (sp__law_odd_number K)) : FnOk Pr wo K mg base CX0 3 f fd ["_law_well_here"] (sp__law_odd_part K) := by
  refine F.ok sc__law_odd_part (fun vs H Q E h => ?_) (fun cdv A outer s H0 vs Q E hr h => ?_)
  · obtain ⟨_, _, _, _, rfl, _⟩ := h; rfl
  · obtain ⟨B0, p_well_here, a_well_here, w, rfl, m_well_here, P⟩ := h
    have w0 := w
    have hu := hu_of hr
    have hu64 := hu64_of hr
    have hr1 : Room 1 _ := hr.mono (by decide)
    have hr2 : Room 2 _ := hr.mono (by decide)
    refine ⟨_, (pss_cons (ps_set (i := 1) sc__law_odd_part.nd rfl (by first | exact Or.inl rfl | exact Or.inr rfl) (pe_call G__law_draw hr1 rfl g__law_draw k__law_draw b__law_draw .nil pass0 (pa_cons (pv 0) (pa_cons pe_int pa_nil))))
      (pss_cons (ps_set (i := 2) sc__law_odd_part.nd rfl (by first | exact Or.inl rfl | exact Or.inr rfl) (pe_lst (pa_cons pe_str (pa_cons pe_str (pa_cons pe_str (pa_cons pe_str (pa_cons (pe_tup pa_nil) (pa_cons (pe_lst (pa_cons pe_int pa_nil)) (pa_cons (pe_tup (pa_cons pe_str (pa_cons pe_int pa_nil))) (pa_cons (pe_tup (pa_cons (pe_tup (pa_cons pe_str (pa_cons pe_int pa_nil))) pa_nil)) (pa_cons (pe_tup (pa_cons pe_str (pa_cons pe_int (pa_cons pe_int (pa_cons pe_int pa_nil))))) pa_nil)))))))))))
      (pss_cons (ps_if (pt_cmpR op_lt (pv 1) pe_int (nomark _)) (pss_one (ps_ret (pe_ix (r := rIxL K) ix_list (pv 2) (pv 1) (fun _ _ => rfl)))) pss_nil)
      (pss_one (ps_ret (pe_call G__law_odd_number hr2 rfl g__law_odd_number k__law_odd_number b__law_odd_number .nil pass0 (pa_cons (pv 0) pa_nil))))))), ?_⟩
    unfold l_odd_part at P
    have st := Stp.refl (W := [p_well_here]) w
    refine h_set ?_
    refine h_call ?_
    refine h_cons ?_
    refine h_var rfl ?_
    refine h_cons ?_
    refine h_c ?_
    refine h_nil ?_
    refine ⟨B0, p_well_here, a_well_here, 10, w, rfl, m_well_here, (P.bind).mono (fun x1 P => ?_) (fun _ z => z)⟩
    refine fun v5 B2 H3 s4 m_well_here r6 => ?_
    replace st := st.go s4 (go1 (.inl (by simp)))
    replace w := s4.ok
    cases r6
    refine h_set ?_
    refine h_lst ?_
    refine h_cons ?_
    refine h_c ?_
    refine h_cons ?_
    refine h_c ?_
    refine h_cons ?_
    refine h_c ?_
    refine h_cons ?_
    refine h_c ?_
    refine h_cons ?_
    refine h_tup ?_
    refine h_nil ?_
    refine h_newT w (K := K) .nil (fun p7 B8 H9 s10 r11 => ?_) (by show 0 ≤ sizeLine; decide)
    replace m_well_here := m_well_here.step s10 nm0
    replace st := st.go s10 go0
    replace w := s10.ok
    replace r11 : Rep K B8 (.ref p7) (enc (.tup [] : D)) := r11
    refine h_cons ?_
    refine h_lst ?_
    refine h_cons ?_
    refine h_c ?_
    refine h_nil ?_
    refine h_newL w (ds := (([1] : List Int)).map enc) (K := K) (.cons (Rep.int _) .nil) (fun p12 B13 H14 s15 r16 => ?_) (by show 1 ≤ sizeLine; decide)
    replace m_well_here := m_well_here.step s15 nm0
    replace r11 := r11.mono s15.ex
    replace st := st.go s15 go0
    replace w := s15.ok
    replace r16 : Rep K B13 (.ref p12) (enc ([1] : List Int)) := r16
    refine h_cons ?_
    refine h_tup ?_
    refine h_cons ?_
    refine h_c ?_
    refine h_cons ?_
    refine h_c ?_
    refine h_nil ?_
    refine h_newT w (K := K) (.cons (Rep.str _) (.cons (Rep.int _) .nil)) (fun p17 B18 H19 s20 r21 => ?_) (by show 2 ≤ sizeLine; decide)
    replace m_well_here := m_well_here.step s20 nm0
    replace r11 := r11.mono s20.ex
    replace r16 := r16.mono s20.ex
    replace st := st.go s20 go0
    replace w := s20.ok
    replace r21 : Rep K B18 (.ref p17) (enc (⟨("plain" : Str), 256⟩ : (Tp2 Str Int))) := r21
    refine h_cons ?_
    refine h_tup ?_
    refine h_cons ?_
    refine h_tup ?_
    refine h_cons ?_
    refine h_c ?_
    refine h_cons ?_
    refine h_c ?_
    refine h_nil ?_
    refine h_newT w (K := K) (.cons (Rep.str _) (.cons (Rep.int _) .nil)) (fun p22 B23 H24 s25 r26 => ?_) (by show 2 ≤ sizeLine; decide)
    replace m_well_here := m_well_here.step s25 nm0
    replace r11 := r11.mono s25.ex
    replace r16 := r16.mono s25.ex
    replace r21 := r21.mono s25.ex
    replace st := st.go s25 go0
    replace w := s25.ok
    replace r26 : Rep K B23 (.ref p22) (enc (⟨("plain" : Str), 7⟩ : (Tp2 Str Int))) := r26
    refine h_nil ?_
    refine h_newT w (K := K) (.cons r26 .nil) (fun p27 B28 H29 s30 r31 => ?_) (by show 1 ≤ sizeLine; decide)
    replace m_well_here := m_well_here.step s30 nm0
    replace r11 := r11.mono s30.ex
    replace r16 := r16.mono s30.ex
    replace r21 := r21.mono s30.ex
    replace st := st.go s30 go0
    replace w := s30.ok
    replace r31 : Rep K B28 (.ref p27) (enc (⟨(⟨("plain" : Str), 7⟩ : (Tp2 Str Int))⟩ : (Tp1 (Tp2 Str Int)))) := r31
    refine h_cons ?_
    refine h_tup ?_
    refine h_cons ?_
    refine h_c ?_
    refine h_cons ?_
    refine h_c ?_
    refine h_cons ?_
    refine h_c ?_
    refine h_cons ?_
    refine h_c ?_
    refine h_nil ?_
    refine h_newT w (K := K) (.cons (Rep.str _) (.cons (Rep.int _) (.cons (Rep.int _) (.cons (Rep.int _) .nil)))) (fun p32 B33 H34 s35 r36 => ?_) (by show 4 ≤ sizeLine; decide)
    replace m_well_here := m_well_here.step s35 nm0
    replace r11 := r11.mono s35.ex
    replace r16 := r16.mono s35.ex
    replace r21 := r21.mono s35.ex
    replace r31 := r31.mono s35.ex
    replace st := st.go s35 go0
    replace w := s35.ok
    replace r36 : Rep K B33 (.ref p32) (enc (⟨("moved" : Str), 1, 0, 0⟩ : (Tp4 Str Int Int Int))) := r36
    refine h_nil ?_
    refine h_newL w (ds := (([(enc ("full" : Str)), (enc ("still" : Str)), (enc ("woven" : Str)), (enc ("Full" : Str)), (.tup [] : D), (enc ([1] : List Int)), (enc (⟨("plain" : Str), 256⟩ : (Tp2 Str Int))), (enc (⟨(⟨("plain" : Str), 7⟩ : (Tp2 Str Int))⟩ : (Tp1 (Tp2 Str Int)))), (enc (⟨("moved" : Str), 1, 0, 0⟩ : (Tp4 Str Int Int Int)))] : List D)).map enc) (K := K) (.cons (Rep.str _) (.cons (Rep.str _) (.cons (Rep.str _) (.cons (Rep.str _) (.cons r11 (.cons r16 (.cons r21 (.cons r31 (.cons r36 .nil))))))))) (fun p37 B38 H39 s40 r41 => ?_) (by show 9 ≤ sizeLine; decide)
    replace m_well_here := m_well_here.step s40 nm0
    replace st := st.go s40 go0
    replace w := s40.ok
    replace r41 : Rep K B38 (.ref p37) (enc ([(enc ("full" : Str)), (enc ("still" : Str)), (enc ("woven" : Str)), (enc ("Full" : Str)), (.tup [] : D), (enc ([1] : List Int)), (enc (⟨("plain" : Str), 256⟩ : (Tp2 Str Int))), (enc (⟨(⟨("plain" : Str), 7⟩ : (Tp2 Str Int))⟩ : (Tp1 (Tp2 Str Int)))), (enc (⟨("moved" : Str), 1, 0, 0⟩ : (Tp4 Str Int Int Int)))] : List D)) := r41
    refine h_seq <| h_if ?_
    refine h_test ?_
    refine h_op ?_
    refine h_var rfl ?_
    refine h_c ?_
    refine h_I0 ?_
    refine h_bl ?_
    refine h_ite (fun c1 => ?_) (fun c1 => ?_)
    · replace P := P.iteT c1
      refine h_ret ?_
      refine h_op ?_
      refine h_var rfl ?_
      refine h_var rfl ?_
      obtain ⟨p42, xs43, hv, hs44, hr45⟩ := Rep.sq w r41
      cases hv
      obtain ⟨x46, hx47, P⟩ := P.ix
      obtain ⟨u48, hu, r49⟩ := RepL.atE hr45 hx47
      refine h_ixL hs44 hu ?_
      exact P.ok _ _ _ st m_well_here r49
    · replace P := P.iteF c1
      refine h_next ?_
      refine h_nx ?_
      refine h_ret ?_
      refine h_call ?_
      refine h_cons ?_
      refine h_var rfl ?_
      refine h_nil ?_
      refine ⟨B38, p_well_here, x1.2, w, rfl, m_well_here, (P.bind).mono (fun x50 P => ?_) (fun _ z => z)⟩
      refine fun v54 B51 H52 s53 m_well_here r55 => ?_
      replace r41 := r41.mono s53.ex
      replace st := st.go s53 (go1 (.inl (by simp)))
      replace w := s53.ok
      exact P.ok _ _ _ st m_well_here r55
theorem ok__law_changed {f__law_changed : Addr} {d__law_changed : FuncData}  (F : Fun K "_law_changed" "_law_changed" s__law_changed f__law_changed d__law_changed) {f__law_draw : Addr} {d__law_draw : FuncData} (g__law_draw : mg "_law_draw" = some (.ref f__law_draw)) (k__law_draw : PySem.W.keepIn K (.ref f__law_draw) = true) (b__law_draw : L2.Binds K d__law_draw ["_law_well_here", "_law_many"] []) (G__law_draw : FnOk Pr wo K mg base CX0 1 f__law_draw d__law_draw ["_law_well_here", "_law_many"] (sp__law_draw K)) {f__law_odd_number : Addr} {d__law_odd_number : FuncData} (g__law_odd_number : mg "_law_odd_number" = some (.ref f__law_odd_number)) (k__law_odd_number : PySem.W.keepIn K (.ref f__law_odd_number) = true) (b__law_odd_number : L2.Binds K d__law_odd_number ["_law_well_here"] []) (G__law_odd_number : FnOk Pr wo K mg base CX0 2 f__law_odd_number d__law_odd_number ["_law_well_here"] (sp__law_odd_number K)) {f__law_odd_part : Addr} {d__law_odd_part : FuncData} (g__law_odd_part : mg "_law_odd_part" = some (.ref f__law_odd_part)) (k__law_odd_part : PySem.W.keepIn K (.ref f__law_odd_part) = true) (b__law_odd_part : L2.Binds K d__law_odd_part ["_law_well_here"] []) (G__law_odd_part : FnOk Pr wo K mg base CX0 3 f__law_odd_part d__law_odd_part ["_law_well_here"] (sp__law_odd_part K)) (g__law_changed : mg "_law_changed" = some (.ref f__law_changed)) (k__law_changed : PySem.W.keepIn K (.ref f__law_changed) = true) (b__law_changed : L2.Binds K d__law_changed ["_law_well_here", "_law_row"] []) (bI_isinstance : mg "isinstance" = none) (bI_tuple : mg "tuple" = none) (bI_len : mg "len" = none) (bI_list : mg "list" = none) : FnOk Pr wo K mg base CX0 13 f__law_changed d__law_changed ["_law_well_here", "_law_row"] (sp__law_changed K) := by
  have main : ∀ nR, FnOk Pr wo K mg base CX0 (4 + nR) f__law_changed d__law_changed ["_law_well_here", "_law_row"] (sp__law_changed_r nR K) := by
    intro nR
    induction nR with
    | zero =>
      refine F.ok sc__law_changed (fun vs H Q E h => ?_) (fun cdv A outer s H0 vs Q E hr h => ?_)
      · obtain ⟨_, _, _, _, _, _, rfl, _⟩ := h; rfl
      · obtain ⟨B0, p_well_here, a_well_here, v_row, a_row, w, rfl, m_well_here, r_row, P⟩ := h
        exact P.elim
    | succ nR G__law_changed =>
      refine F.ok sc__law_changed (fun vs H Q E h => ?_) (fun cdv A outer s H0 vs Q E hr h => ?_)
      · obtain ⟨_, _, _, _, _, _, rfl, _⟩ := h; rfl
      · obtain ⟨B0, p_well_here, a_well_here, v_row, a_row, w, rfl, m_well_here, r_row, P⟩ := h
        have w0 := w
        have hu := hu_of hr
        have hu64 := hu64_of hr
        have hrR : Room (4 + nR) _ := hr.mono (Nat.le_refl _)
        have hr1 : Room 1 _ := hr.mono (show (1 : Nat) ≤ 4 + nR by omega)
        have hr2 : Room 2 _ := hr.mono (show (2 : Nat) ≤ 4 + nR by omega)
        have hr3 : Room 3 _ := hr.mono (show (3 : Nat) ≤ 4 + nR by omega)
        refine ⟨_, (pss_cons (ps_set (i := 2) sc__law_changed.nd rfl (by first | exact Or.inl rfl | exact Or.inr rfl) (pe_call G__law_draw hr1 rfl g__law_draw k__law_draw b__law_draw .nil pass0 (pa_cons (pv 0) (pa_cons pe_int pa_nil))))
          (pss_cons (ps_set (i := 3) sc__law_changed.nd rfl (by first | exact Or.inl rfl | exact Or.inr rfl) (pe_call G__law_draw hr1 rfl g__law_draw k__law_draw b__law_draw .nil pass0 (pa_cons (pv 0) (pa_cons pe_int pa_nil))))
          (pss_cons (ps_if (pt_cmpR op_eq (pv 2) pe_int (nomark _)) (pss_cons (ps_set (i := 4) sc__law_changed.nd rfl (by first | exact Or.inl rfl | exact Or.inr rfl) (pe_op op_mod (pv 3) (pe_op op_add (pe_callB (r := rLenY K) cr_len (by rfl) bI_len PySem.boot_len (pa_cons (pv 1) pa_nil)) pe_int)))
          (pss_one (ps_ret (pe_op (r := rCatA K) op_catA (pe_op (r := rCatA K) op_catA (pe_slice (r := rSlA K) sl_tupA (pv 1) po_none (po_some (pv 4))) (pe_tup (pa_cons (pe_call G__law_odd_number hr2 rfl g__law_odd_number k__law_odd_number b__law_odd_number .nil pass0 (pa_cons (pv 0) pa_nil)) pa_nil))) (pe_slice (r := rSlA K) sl_tupA (pv 1) (po_some (pv 4)) po_none))))) pss_nil)
          (pss_cons (ps_if (pt_cmpR (r := rEqD K) (op_eqD hu64) (pv 1) (pe_tup pa_nil) (nomark _)) (pss_one (ps_ret (pe_tup (pa_cons (pe_tup pa_nil) pa_nil)))) pss_nil)
          (pss_cons (ps_set (i := 4) sc__law_changed.nd rfl (by first | exact Or.inl rfl | exact Or.inr rfl) (pe_op op_mod (pv 3) (pe_callB (r := rLenY K) cr_len (by rfl) bI_len PySem.boot_len (pa_cons (pv 1) pa_nil))))
          (pss_cons (ps_if (pt_cmpR op_eq (pv 2) pe_int (nomark _)) (pss_one (ps_ret (pe_op (r := rCatA K) op_catA (pe_slice (r := rSlA K) sl_tupA (pv 1) po_none (po_some (pv 4))) (pe_slice (r := rSlA K) sl_tupA (pv 1) (po_some (pe_op op_add (pv 4) pe_int)) po_none)))) pss_nil)
          (pss_cons (ps_if (pt_cmpR op_eq (pv 2) pe_int (nomark _)) (pss_one (ps_ret (pe_op (r := rCatA K) op_catA (pe_op (r := rCatA K) op_catA (pe_slice (r := rSlA K) sl_tupA (pv 1) po_none (po_some (pv 4))) (pe_tup (pa_cons (pe_call G__law_odd_part hr3 rfl g__law_odd_part k__law_odd_part b__law_odd_part .nil pass0 (pa_cons (pv 0) pa_nil)) pa_nil))) (pe_slice (r := rSlA K) sl_tupA (pv 1) (po_some (pe_op op_add (pv 4) pe_int)) po_none)))) pss_nil)
          (pss_cons (ps_if (pt_val (pe_callB (r := rIsi K) call_isi (by rfl) bI_isinstance PyProof.Rows.boot_isinstance (pa_cons (pe_ix (r := rIxT K) ix_tup (pv 1) (pv 4) (fun _ _ => rfl)) (pa_cons (pe_bltn (v := .ty "tuple") (by rfl) bI_tuple Y.boot_tuple rfl) pa_nil)))) (pss_cons (ps_if (pt_cmpR op_eq (pv 2) pe_int (nomark _)) (pss_one (ps_ret (pe_op (r := rCatA K) op_catA (pe_op (r := rCatA K) op_catA (pe_slice (r := rSlA K) sl_tupA (pv 1) po_none (po_some (pv 4))) (pe_tup (pa_cons (pe_callTy (r := rListY K) cr_list (by rfl) bI_list Y.boot_list (pa_cons (pe_ix (r := rIxT K) ix_tup (pv 1) (pv 4) (fun _ _ => rfl)) pa_nil)) pa_nil))) (pe_slice (r := rSlA K) sl_tupA (pv 1) (po_some (pe_op op_add (pv 4) pe_int)) po_none)))) pss_nil)
          (pss_one (ps_ret (pe_op (r := rCatA K) op_catA (pe_op (r := rCatA K) op_catA (pe_slice (r := rSlA K) sl_tupA (pv 1) po_none (po_some (pv 4))) (pe_tup (pa_cons (pe_call G__law_changed hrR rfl g__law_changed k__law_changed b__law_changed .nil pass0 (pa_cons (pv 0) (pa_cons (pe_ix (r := rIxT K) ix_tup (pv 1) (pv 4) (fun _ _ => rfl)) pa_nil))) pa_nil))) (pe_slice (r := rSlA K) sl_tupA (pv 1) (po_some (pe_op op_add (pv 4) pe_int)) po_none))))) pss_nil)
          (pss_one (ps_ret (pe_op (r := rCatA K) op_catA (pe_op (r := rCatA K) op_catA (pe_slice (r := rSlA K) sl_tupA (pv 1) po_none (po_some (pv 4))) (pe_tup (pa_cons (pe_call G__law_odd_number hr2 rfl g__law_odd_number k__law_odd_number b__law_odd_number .nil pass0 (pa_cons (pv 0) pa_nil)) pa_nil))) (pe_slice (r := rSlA K) sl_tupA (pv 1) (po_some (pe_op op_add (pv 4) pe_int)) po_none)))))))))))), ?_⟩
        unfold l_changed_r at P
        have st := Stp.refl (W := [p_well_here]) w
        refine h_set ?_
        refine h_call ?_
        refine h_cons ?_
        refine h_var rfl ?_
        refine h_cons ?_
        refine h_c ?_
        refine h_nil ?_
        refine ⟨B0, p_well_here, a_well_here, 7, w, rfl, m_well_here, (P.bind).mono (fun x1 P => ?_) (fun _ z => z)⟩
        refine fun v5 B2 H3 s4 m_well_here r6 => ?_
        replace st := st.go s4 (go1 (.inl (by simp)))
        replace w := s4.ok
        cases r6
        refine h_set ?_
        refine h_call ?_
        refine h_cons ?_
        refine h_var rfl ?_
        refine h_cons ?_
        refine h_c ?_
        refine h_nil ?_
        refine ⟨B2, p_well_here, x1.2, 60, w, rfl, m_well_here, (P.bind).mono (fun x7 P => ?_) (fun _ z => z)⟩
        refine fun v11 B8 H9 s10 m_well_here r12 => ?_
        replace st := st.go s10 (go1 (.inl (by simp)))
        replace w := s10.ok
        cases r12
        refine h_seq <| h_if ?_
        refine h_test ?_
        refine h_op ?_
        refine h_var rfl ?_
        refine h_c ?_
        refine h_eqI ?_
        refine h_bl ?_
        refine h_ite (fun c1 => ?_) (fun c1 => ?_)
        · replace P := P.iteT c1
          refine h_set ?_
          refine h_op ?_
          refine h_var rfl ?_
          refine h_op ?_
          refine h_cb ?_
          refine h_cons ?_
          refine h_var rfl ?_
          refine h_nil ?_
          obtain ⟨l13, hl14, P⟩ := P.asT
          have rc15 := (r_row.mono st.ex)
          rw [hl14] at rc15
          obtain ⟨p16, xs17, rfl, hs18, hr19⟩ := Rep.st w rc15
          refine h_lenTl hs18 hr19 ?_
          refine h_c ?_
          refine h_I0 ?_
          obtain ⟨gd, P⟩ := P.guard
          refine h_I gd ?_
          replace P := P.lt
          generalize hx : (x7.1 % ((l13.length : Int) + 1)) = x20 at P ⊢
          refine h_ret ?_
          refine h_op ?_
          refine h_op ?_
          refine h_sl ?_
          refine h_var rfl ?_
          refine h_nopart ?_
          refine h_part ?_
          refine h_var rfl ?_
          refine h_isI ?_
          obtain ⟨l21, hl22, P⟩ := P.asT
          have rc23 := (r_row.mono st.ex)
          rw [hl22] at rc23
          obtain ⟨p24, xs25, hv, hs26, hr27⟩ := Rep.st w rc23
          cases hv
          refine h_slA w rc23 (fun u28 B29 H30 s31 r32 => ?_)
          replace m_well_here := m_well_here.step s31 nm0
          replace st := st.go s31 go0
          replace w := s31.ok
          replace r32 : Rep K B29 u28 (enc (.tup ((cutL l21 none (some x20)).map enc) : D)) := r32
          refine h_tup ?_
          refine h_cons ?_
          refine h_call ?_
          refine h_cons ?_
          refine h_var rfl ?_
          refine h_nil ?_
          refine ⟨B29, p_well_here, x7.2, w, rfl, m_well_here, (P.bind).mono (fun x33 P => ?_) (fun _ z => z)⟩
          refine fun v37 B34 H35 s36 m_well_here r38 => ?_
          replace r32 := r32.mono s36.ex
          replace st := st.go s36 (go1 (.inl (by simp)))
          replace w := s36.ok
          refine h_nil ?_
          refine h_newT w (K := K) (.cons r38 .nil) (fun p39 B40 H41 s42 r43 => ?_) (by show 1 ≤ sizeLine; decide)
          replace m_well_here := m_well_here.step s42 nm0
          replace r32 := r32.mono s42.ex
          replace st := st.go s42 go0
          replace w := s42.ok
          replace r43 : Rep K B40 (.ref p39) (enc (⟨x33.1⟩ : (Tp1 D))) := r43
          obtain ⟨l44, hl45, P⟩ := P.asT
          have rc46 := r32
          rw [hl45] at rc46
          obtain ⟨p47, xs48, rfl, hs49, hr50⟩ := Rep.st w rc46
          have rt1 : Rep K B40 (.ref p39) (enc (⟨x33.1⟩ : (Tp1 D))) := r43
          obtain ⟨l51, hl52, P⟩ := P.asT
          have rc53 := rt1
          rw [hl52] at rc53
          obtain ⟨p54, xs55, hv, hs56, hr57⟩ := Rep.st w rc53
          cases hv
          obtain ⟨gd, P⟩ := P.guard
          refine h_catA w rc46 rc53 gd (fun u58 B59 H60 s61 r62 => ?_)
          replace m_well_here := m_well_here.step s61 nm0
          replace st := st.go s61 go0
          replace w := s61.ok
          replace r62 : Rep K B59 u58 (enc (.tup ((l44 ++ l51).map enc) : D)) := r62
          refine h_sl ?_
          refine h_var rfl ?_
          refine h_part ?_
          refine h_var rfl ?_
          refine h_isI ?_
          refine h_nopart ?_
          obtain ⟨l63, hl64, P⟩ := P.asT
          have rc65 := (r_row.mono st.ex)
          rw [hl64] at rc65
          obtain ⟨p66, xs67, hv, hs68, hr69⟩ := Rep.st w rc65
          cases hv
          refine h_slA w rc65 (fun u70 B71 H72 s73 r74 => ?_)
          replace m_well_here := m_well_here.step s73 nm0
          replace r62 := r62.mono s73.ex
          replace st := st.go s73 go0
          replace w := s73.ok
          replace r74 : Rep K B71 u70 (enc (.tup ((cutL l63 (some x20) none).map enc) : D)) := r74
          obtain ⟨l75, hl76, P⟩ := P.asT
          have rc77 := r62
          rw [hl76] at rc77
          obtain ⟨p78, xs79, rfl, hs80, hr81⟩ := Rep.st w rc77
          obtain ⟨l82, hl83, P⟩ := P.asT
          have rc84 := r74
          rw [hl83] at rc84
          obtain ⟨p85, xs86, rfl, hs87, hr88⟩ := Rep.st w rc84
          obtain ⟨gd, P⟩ := P.guard
          refine h_catA w rc77 rc84 gd (fun u89 B90 H91 s92 r93 => ?_)
          replace m_well_here := m_well_here.step s92 nm0
          replace st := st.go s92 go0
          replace w := s92.ok
          replace r93 : Rep K B90 u89 (enc (.tup ((l75 ++ l82).map enc) : D)) := r93
          exact P.ok _ _ _ st m_well_here r93
        · replace P := P.iteF c1
          refine h_next ?_
          refine h_nx ?_
          refine h_seq <| h_if ?_
          refine h_test ?_
          refine h_op ?_
          refine h_var rfl ?_
          refine h_tup ?_
          refine h_nil ?_
          refine h_newT w (K := K) .nil (fun p94 B95 H96 s97 r98 => ?_) (by show 0 ≤ sizeLine; decide)
          replace m_well_here := m_well_here.step s97 nm0
          replace st := st.go s97 go0
          replace w := s97.ok
          replace r98 : Rep K B95 (.ref p94) (enc (.tup [] : D)) := r98
          obtain ⟨gd, P⟩ := P.guard
          refine h_eqD (d := a_row) (e := (.tup [] : D)) w (r_row.mono st.ex) r98 gd ?_
          refine h_bl ?_
          refine h_ite (fun c1 => ?_) (fun c1 => ?_)
          · replace P := P.iteT c1
            refine h_ret ?_
            refine h_tup ?_
            refine h_cons ?_
            refine h_tup ?_
            refine h_nil ?_
            refine h_newT w (K := K) .nil (fun p99 B100 H101 s102 r103 => ?_) (by show 0 ≤ sizeLine; decide)
            replace m_well_here := m_well_here.step s102 nm0
            replace st := st.go s102 go0
            replace w := s102.ok
            replace r103 : Rep K B100 (.ref p99) (enc (.tup [] : D)) := r103
            refine h_nil ?_
            refine h_newT w (K := K) (.cons r103 .nil) (fun p104 B105 H106 s107 r108 => ?_) (by show 1 ≤ sizeLine; decide)
            replace m_well_here := m_well_here.step s107 nm0
            replace st := st.go s107 go0
            replace w := s107.ok
            replace r108 : Rep K B105 (.ref p104) (enc (⟨(.tup [] : D)⟩ : (Tp1 D))) := r108
            exact P.ok _ _ _ st m_well_here r108
          · replace P := P.iteF c1
            refine h_next ?_
            refine h_nx ?_
            refine h_set ?_
            refine h_op ?_
            refine h_var rfl ?_
            refine h_cb ?_
            refine h_cons ?_
            refine h_var rfl ?_
            refine h_nil ?_
            obtain ⟨l109, hl110, P⟩ := P.asT
            have rc111 := (r_row.mono st.ex)
            rw [hl110] at rc111
            obtain ⟨p112, xs113, rfl, hs114, hr115⟩ := Rep.st w rc111
            refine h_lenTl hs114 hr115 ?_
            obtain ⟨gd, P⟩ := P.guard
            refine h_I gd ?_
            replace P := P.lt
            generalize hx : (x7.1 % (l109.length : Int)) = x116 at P ⊢
            refine h_seq <| h_if ?_
            refine h_test ?_
            refine h_op ?_
            refine h_var rfl ?_
            refine h_c ?_
            refine h_eqI ?_
            refine h_bl ?_
            refine h_ite (fun c1 => ?_) (fun c1 => ?_)
            · replace P := P.iteT c1
              refine h_ret ?_
              refine h_op ?_
              refine h_sl ?_
              refine h_var rfl ?_
              refine h_nopart ?_
              refine h_part ?_
              refine h_var rfl ?_
              refine h_isI ?_
              obtain ⟨l117, hl118, P⟩ := P.asT
              have rc119 := (r_row.mono st.ex)
              rw [hl118] at rc119
              obtain ⟨p120, xs121, hv, hs122, hr123⟩ := Rep.st w rc119
              cases hv
              refine h_slA w rc119 (fun u124 B125 H126 s127 r128 => ?_)
              replace m_well_here := m_well_here.step s127 nm0
              replace st := st.go s127 go0
              replace w := s127.ok
              replace r128 : Rep K B125 u124 (enc (.tup ((cutL l117 none (some x116)).map enc) : D)) := r128
              refine h_sl ?_
              refine h_var rfl ?_
              refine h_part ?_
              refine h_op ?_
              refine h_var rfl ?_
              refine h_c ?_
              refine h_I0 ?_
              refine h_isI ?_
              refine h_nopart ?_
              obtain ⟨l129, hl130, P⟩ := P.asT
              have rc131 := (r_row.mono st.ex)
              rw [hl130] at rc131
              obtain ⟨p132, xs133, hv, hs134, hr135⟩ := Rep.st w rc131
              cases hv
              refine h_slA w rc131 (fun u136 B137 H138 s139 r140 => ?_)
              replace m_well_here := m_well_here.step s139 nm0
              replace r128 := r128.mono s139.ex
              replace st := st.go s139 go0
              replace w := s139.ok
              replace r140 : Rep K B137 u136 (enc (.tup ((cutL l129 (some (x116 + 1)) none).map enc) : D)) := r140
              obtain ⟨l141, hl142, P⟩ := P.asT
              have rc143 := r128
              rw [hl142] at rc143
              obtain ⟨p144, xs145, rfl, hs146, hr147⟩ := Rep.st w rc143
              obtain ⟨l148, hl149, P⟩ := P.asT
              have rc150 := r140
              rw [hl149] at rc150
              obtain ⟨p151, xs152, rfl, hs153, hr154⟩ := Rep.st w rc150
              obtain ⟨gd, P⟩ := P.guard
              refine h_catA w rc143 rc150 gd (fun u155 B156 H157 s158 r159 => ?_)
              replace m_well_here := m_well_here.step s158 nm0
              replace st := st.go s158 go0
              replace w := s158.ok
              replace r159 : Rep K B156 u155 (enc (.tup ((l141 ++ l148).map enc) : D)) := r159
              exact P.ok _ _ _ st m_well_here r159
            · replace P := P.iteF c1
              refine h_next ?_
              refine h_nx ?_
              refine h_seq <| h_if ?_
              refine h_test ?_
              refine h_op ?_
              refine h_var rfl ?_
              refine h_c ?_
              refine h_eqI ?_
              refine h_bl ?_
              refine h_ite (fun c1 => ?_) (fun c1 => ?_)
              · replace P := P.iteT c1
                refine h_ret ?_
                refine h_op ?_
                refine h_op ?_
                refine h_sl ?_
                refine h_var rfl ?_
                refine h_nopart ?_
                refine h_part ?_
                refine h_var rfl ?_
                refine h_isI ?_
                obtain ⟨l160, hl161, P⟩ := P.asT
                have rc162 := (r_row.mono st.ex)
                rw [hl161] at rc162
                obtain ⟨p163, xs164, hv, hs165, hr166⟩ := Rep.st w rc162
                cases hv
                refine h_slA w rc162 (fun u167 B168 H169 s170 r171 => ?_)
                replace m_well_here := m_well_here.step s170 nm0
                replace st := st.go s170 go0
                replace w := s170.ok
                replace r171 : Rep K B168 u167 (enc (.tup ((cutL l160 none (some x116)).map enc) : D)) := r171
                refine h_tup ?_
                refine h_cons ?_
                refine h_call ?_
                refine h_cons ?_
                refine h_var rfl ?_
                refine h_nil ?_
                refine ⟨B168, p_well_here, x7.2, w, rfl, m_well_here, (P.bind).mono (fun x172 P => ?_) (fun _ z => z)⟩
                refine fun v176 B173 H174 s175 m_well_here r177 => ?_
                replace r171 := r171.mono s175.ex
                replace st := st.go s175 (go1 (.inl (by simp)))
                replace w := s175.ok
                refine h_nil ?_
                refine h_newT w (K := K) (.cons r177 .nil) (fun p178 B179 H180 s181 r182 => ?_) (by show 1 ≤ sizeLine; decide)
                replace m_well_here := m_well_here.step s181 nm0
                replace r171 := r171.mono s181.ex
                replace st := st.go s181 go0
                replace w := s181.ok
                replace r182 : Rep K B179 (.ref p178) (enc (⟨x172.1⟩ : (Tp1 D))) := r182
                obtain ⟨l183, hl184, P⟩ := P.asT
                have rc185 := r171
                rw [hl184] at rc185
                obtain ⟨p186, xs187, rfl, hs188, hr189⟩ := Rep.st w rc185
                have rt1 : Rep K B179 (.ref p178) (enc (⟨x172.1⟩ : (Tp1 D))) := r182
                obtain ⟨l190, hl191, P⟩ := P.asT
                have rc192 := rt1
                rw [hl191] at rc192
                obtain ⟨p193, xs194, hv, hs195, hr196⟩ := Rep.st w rc192
                cases hv
                obtain ⟨gd, P⟩ := P.guard
                refine h_catA w rc185 rc192 gd (fun u197 B198 H199 s200 r201 => ?_)
                replace m_well_here := m_well_here.step s200 nm0
                replace st := st.go s200 go0
                replace w := s200.ok
                replace r201 : Rep K B198 u197 (enc (.tup ((l183 ++ l190).map enc) : D)) := r201
                refine h_sl ?_
                refine h_var rfl ?_
                refine h_part ?_
                refine h_op ?_
                refine h_var rfl ?_
                refine h_c ?_
                refine h_I0 ?_
                refine h_isI ?_
                refine h_nopart ?_
                obtain ⟨l202, hl203, P⟩ := P.asT
                have rc204 := (r_row.mono st.ex)
                rw [hl203] at rc204
                obtain ⟨p205, xs206, hv, hs207, hr208⟩ := Rep.st w rc204
                cases hv
                refine h_slA w rc204 (fun u209 B210 H211 s212 r213 => ?_)
                replace m_well_here := m_well_here.step s212 nm0
                replace r201 := r201.mono s212.ex
                replace st := st.go s212 go0
                replace w := s212.ok
                replace r213 : Rep K B210 u209 (enc (.tup ((cutL l202 (some (x116 + 1)) none).map enc) : D)) := r213
                obtain ⟨l214, hl215, P⟩ := P.asT
                have rc216 := r201
                rw [hl215] at rc216
                obtain ⟨p217, xs218, rfl, hs219, hr220⟩ := Rep.st w rc216
                obtain ⟨l221, hl222, P⟩ := P.asT
                have rc223 := r213
                rw [hl222] at rc223
                obtain ⟨p224, xs225, rfl, hs226, hr227⟩ := Rep.st w rc223
                obtain ⟨gd, P⟩ := P.guard
                refine h_catA w rc216 rc223 gd (fun u228 B229 H230 s231 r232 => ?_)
                replace m_well_here := m_well_here.step s231 nm0
                replace st := st.go s231 go0
                replace w := s231.ok
                replace r232 : Rep K B229 u228 (enc (.tup ((l214 ++ l221).map enc) : D)) := r232
                exact P.ok _ _ _ st m_well_here r232
              · replace P := P.iteF c1
                refine h_next ?_
                refine h_nx ?_
                refine h_seq <| h_if ?_
                refine h_tB ?_
                refine h_cb ?_
                refine h_cons ?_
                refine h_op ?_
                refine h_var rfl ?_
                refine h_var rfl ?_
                obtain ⟨l233, hl234, P⟩ := P.asT
                have rc235 := (r_row.mono st.ex)
                rw [hl234] at rc235
                obtain ⟨p236, xs237, hv, hs238, hr239⟩ := Rep.st w rc235
                cases hv
                obtain ⟨x240, hx241, P⟩ := P.ix
                obtain ⟨u242, hu, r243⟩ := RepL.atE hr239 hx241
                refine h_ixT hs238 hu ?_
                refine h_cons ?_
                refine h_c ?_
                refine h_nil ?_
                refine isi (t := "tuple") w r243 ?_
                refine h_bl ?_
                refine h_ite (fun c1 => ?_) (fun c1 => ?_)
                · replace P := P.iteT c1
                  refine h_seq <| h_if ?_
                  refine h_test ?_
                  refine h_op ?_
                  refine h_var rfl ?_
                  refine h_c ?_
                  refine h_eqI ?_
                  refine h_bl ?_
                  refine h_ite (fun c1 => ?_) (fun c1 => ?_)
                  · replace P := P.iteT c1
                    refine h_ret ?_
                    refine h_op ?_
                    refine h_op ?_
                    refine h_sl ?_
                    refine h_var rfl ?_
                    refine h_nopart ?_
                    refine h_part ?_
                    refine h_var rfl ?_
                    refine h_isI ?_
                    obtain ⟨l244, hl245, P⟩ := P.asT
                    have rc246 := (r_row.mono st.ex)
                    rw [hl245] at rc246
                    obtain ⟨p247, xs248, hv, hs249, hr250⟩ := Rep.st w rc246
                    cases hv
                    refine h_slA w rc246 (fun u251 B252 H253 s254 r255 => ?_)
                    replace m_well_here := m_well_here.step s254 nm0
                    replace st := st.go s254 go0
                    replace w := s254.ok
                    replace r255 : Rep K B252 u251 (enc (.tup ((cutL l244 none (some x116)).map enc) : D)) := r255
                    refine h_tup ?_
                    refine h_cons ?_
                    refine h_cb ?_
                    refine h_cons ?_
                    refine h_op ?_
                    refine h_var rfl ?_
                    refine h_var rfl ?_
                    obtain ⟨l256, hl257, P⟩ := P.asT
                    have rc258 := (r_row.mono st.ex)
                    rw [hl257] at rc258
                    obtain ⟨p259, xs260, hv, hs261, hr262⟩ := Rep.st w rc258
                    cases hv
                    obtain ⟨x263, hx264, P⟩ := P.ix
                    obtain ⟨u265, hu, r266⟩ := RepL.atE hr262 hx264
                    refine h_ixT hs261 hu ?_
                    refine h_nil ?_
                    obtain ⟨l267, hl268, P⟩ := P.asT
                    have rc269 := r266
                    rw [hl268] at rc269
                    obtain ⟨p270, xs271, rfl, hs272, hr273⟩ := Rep.st w rc269
                    refine h_listT hs272 ?_
                    refine h_nwL w (ds := (l267).map enc) (K := K) hr273 (fun p274 B275 H276 s277 r278 => ?_) 
                    replace m_well_here := m_well_here.step s277 nm0
                    replace r255 := r255.mono s277.ex
                    replace st := st.go s277 go0
                    replace w := s277.ok
                    replace r278 : Rep K B275 (.ref p274) (enc l267) := r278
                    refine h_nil ?_
                    refine h_newT w (K := K) (.cons r278 .nil) (fun p279 B280 H281 s282 r283 => ?_) (by show 1 ≤ sizeLine; decide)
                    replace m_well_here := m_well_here.step s282 nm0
                    replace r255 := r255.mono s282.ex
                    replace st := st.go s282 go0
                    replace w := s282.ok
                    replace r283 : Rep K B280 (.ref p279) (enc (⟨l267⟩ : (Tp1 (List D)))) := r283
                    obtain ⟨l284, hl285, P⟩ := P.asT
                    have rc286 := r255
                    rw [hl285] at rc286
                    obtain ⟨p287, xs288, rfl, hs289, hr290⟩ := Rep.st w rc286
                    have rt1 : Rep K B280 (.ref p279) (enc (⟨l267⟩ : (Tp1 (List D)))) := r283
                    obtain ⟨l291, hl292, P⟩ := P.asT
                    have rc293 := rt1
                    rw [hl292] at rc293
                    obtain ⟨p294, xs295, hv, hs296, hr297⟩ := Rep.st w rc293
                    cases hv
                    obtain ⟨gd, P⟩ := P.guard
                    refine h_catA w rc286 rc293 gd (fun u298 B299 H300 s301 r302 => ?_)
                    replace m_well_here := m_well_here.step s301 nm0
                    replace st := st.go s301 go0
                    replace w := s301.ok
                    replace r302 : Rep K B299 u298 (enc (.tup ((l284 ++ l291).map enc) : D)) := r302
                    refine h_sl ?_
                    refine h_var rfl ?_
                    refine h_part ?_
                    refine h_op ?_
                    refine h_var rfl ?_
                    refine h_c ?_
                    refine h_I0 ?_
                    refine h_isI ?_
                    refine h_nopart ?_
                    obtain ⟨l303, hl304, P⟩ := P.asT
                    have rc305 := (r_row.mono st.ex)
                    rw [hl304] at rc305
                    obtain ⟨p306, xs307, hv, hs308, hr309⟩ := Rep.st w rc305
                    cases hv
                    refine h_slA w rc305 (fun u310 B311 H312 s313 r314 => ?_)
                    replace m_well_here := m_well_here.step s313 nm0
                    replace r302 := r302.mono s313.ex
                    replace st := st.go s313 go0
                    replace w := s313.ok
                    replace r314 : Rep K B311 u310 (enc (.tup ((cutL l303 (some (x116 + 1)) none).map enc) : D)) := r314
                    obtain ⟨l315, hl316, P⟩ := P.asT
                    have rc317 := r302
                    rw [hl316] at rc317
                    obtain ⟨p318, xs319, rfl, hs320, hr321⟩ := Rep.st w rc317
                    obtain ⟨l322, hl323, P⟩ := P.asT
                    have rc324 := r314
                    rw [hl323] at rc324
                    obtain ⟨p325, xs326, rfl, hs327, hr328⟩ := Rep.st w rc324
                    obtain ⟨gd, P⟩ := P.guard
                    refine h_catA w rc317 rc324 gd (fun u329 B330 H331 s332 r333 => ?_)
                    replace m_well_here := m_well_here.step s332 nm0
                    replace st := st.go s332 go0
                    replace w := s332.ok
                    replace r333 : Rep K B330 u329 (enc (.tup ((l315 ++ l322).map enc) : D)) := r333
                    exact P.ok _ _ _ st m_well_here r333
                  · replace P := P.iteF c1
                    refine h_next ?_
                    refine h_nx ?_
                    refine h_ret ?_
                    refine h_op ?_
                    refine h_op ?_
                    refine h_sl ?_
                    refine h_var rfl ?_
                    refine h_nopart ?_
                    refine h_part ?_
                    refine h_var rfl ?_
                    refine h_isI ?_
                    obtain ⟨l334, hl335, P⟩ := P.asT
                    have rc336 := (r_row.mono st.ex)
                    rw [hl335] at rc336
                    obtain ⟨p337, xs338, hv, hs339, hr340⟩ := Rep.st w rc336
                    cases hv
                    refine h_slA w rc336 (fun u341 B342 H343 s344 r345 => ?_)
                    replace m_well_here := m_well_here.step s344 nm0
                    replace st := st.go s344 go0
                    replace w := s344.ok
                    replace r345 : Rep K B342 u341 (enc (.tup ((cutL l334 none (some x116)).map enc) : D)) := r345
                    refine h_tup ?_
                    refine h_cons ?_
                    refine h_call ?_
                    refine h_cons ?_
                    refine h_var rfl ?_
                    refine h_cons ?_
                    refine h_op ?_
                    refine h_var rfl ?_
                    refine h_var rfl ?_
                    obtain ⟨l346, hl347, P⟩ := P.asT
                    have rc348 := (r_row.mono st.ex)
                    rw [hl347] at rc348
                    obtain ⟨p349, xs350, hv, hs351, hr352⟩ := Rep.st w rc348
                    cases hv
                    obtain ⟨x353, hx354, P⟩ := P.ix
                    obtain ⟨u355, hu, r356⟩ := RepL.atE hr352 hx354
                    refine h_ixT hs351 hu ?_
                    refine h_nil ?_
                    refine ⟨B342, p_well_here, x7.2, u355, x353, w, rfl, m_well_here, r356, (P.bind).mono (fun x357 P => ?_) (fun _ z => z)⟩
                    refine fun v361 B358 H359 s360 m_well_here r362 => ?_
                    replace r345 := r345.mono s360.ex
                    replace r356 := r356.mono s360.ex
                    replace st := st.go s360 (go1 (.inl (by simp)))
                    replace w := s360.ok
                    refine h_nil ?_
                    refine h_newT w (K := K) (.cons r362 .nil) (fun p363 B364 H365 s366 r367 => ?_) (by show 1 ≤ sizeLine; decide)
                    replace m_well_here := m_well_here.step s366 nm0
                    replace r345 := r345.mono s366.ex
                    replace st := st.go s366 go0
                    replace w := s366.ok
                    replace r367 : Rep K B364 (.ref p363) (enc (⟨x357.1⟩ : (Tp1 D))) := r367
                    obtain ⟨l368, hl369, P⟩ := P.asT
                    have rc370 := r345
                    rw [hl369] at rc370
                    obtain ⟨p371, xs372, rfl, hs373, hr374⟩ := Rep.st w rc370
                    have rt1 : Rep K B364 (.ref p363) (enc (⟨x357.1⟩ : (Tp1 D))) := r367
                    obtain ⟨l375, hl376, P⟩ := P.asT
                    have rc377 := rt1
                    rw [hl376] at rc377
                    obtain ⟨p378, xs379, hv, hs380, hr381⟩ := Rep.st w rc377
                    cases hv
                    obtain ⟨gd, P⟩ := P.guard
                    refine h_catA w rc370 rc377 gd (fun u382 B383 H384 s385 r386 => ?_)
                    replace m_well_here := m_well_here.step s385 nm0
                    replace st := st.go s385 go0
                    replace w := s385.ok
                    replace r386 : Rep K B383 u382 (enc (.tup ((l368 ++ l375).map enc) : D)) := r386
                    refine h_sl ?_
                    refine h_var rfl ?_
                    refine h_part ?_
                    refine h_op ?_
                    refine h_var rfl ?_
                    refine h_c ?_
                    refine h_I0 ?_
                    refine h_isI ?_
                    refine h_nopart ?_
                    obtain ⟨l387, hl388, P⟩ := P.asT
                    have rc389 := (r_row.mono st.ex)
                    rw [hl388] at rc389
                    obtain ⟨p390, xs391, hv, hs392, hr393⟩ := Rep.st w rc389
                    cases hv
                    refine h_slA w rc389 (fun u394 B395 H396 s397 r398 => ?_)
                    replace m_well_here := m_well_here.step s397 nm0
                    replace r386 := r386.mono s397.ex
                    replace st := st.go s397 go0
                    replace w := s397.ok
                    replace r398 : Rep K B395 u394 (enc (.tup ((cutL l387 (some (x116 + 1)) none).map enc) : D)) := r398
                    obtain ⟨l399, hl400, P⟩ := P.asT
                    have rc401 := r386
                    rw [hl400] at rc401
                    obtain ⟨p402, xs403, rfl, hs404, hr405⟩ := Rep.st w rc401
                    obtain ⟨l406, hl407, P⟩ := P.asT
                    have rc408 := r398
                    rw [hl407] at rc408
                    obtain ⟨p409, xs410, rfl, hs411, hr412⟩ := Rep.st w rc408
                    obtain ⟨gd, P⟩ := P.guard
                    refine h_catA w rc401 rc408 gd (fun u413 B414 H415 s416 r417 => ?_)
                    replace m_well_here := m_well_here.step s416 nm0
                    replace st := st.go s416 go0
                    replace w := s416.ok
                    replace r417 : Rep K B414 u413 (enc (.tup ((l399 ++ l406).map enc) : D)) := r417
                    exact P.ok _ _ _ st m_well_here r417
                · replace P := P.iteF c1
                  refine h_next ?_
                  refine h_nx ?_
                  refine h_ret ?_
                  refine h_op ?_
                  refine h_op ?_
                  refine h_sl ?_
                  refine h_var rfl ?_
                  refine h_nopart ?_
                  refine h_part ?_
                  refine h_var rfl ?_
                  refine h_isI ?_
                  obtain ⟨l418, hl419, P⟩ := P.asT
                  have rc420 := (r_row.mono st.ex)
                  rw [hl419] at rc420
                  obtain ⟨p421, xs422, hv, hs423, hr424⟩ := Rep.st w rc420
                  cases hv
                  refine h_slA w rc420 (fun u425 B426 H427 s428 r429 => ?_)
                  replace m_well_here := m_well_here.step s428 nm0
                  replace st := st.go s428 go0
                  replace w := s428.ok
                  replace r429 : Rep K B426 u425 (enc (.tup ((cutL l418 none (some x116)).map enc) : D)) := r429
                  refine h_tup ?_
                  refine h_cons ?_
                  refine h_call ?_
                  refine h_cons ?_
                  refine h_var rfl ?_
                  refine h_nil ?_
                  refine ⟨B426, p_well_here, x7.2, w, rfl, m_well_here, (P.bind).mono (fun x430 P => ?_) (fun _ z => z)⟩
                  refine fun v434 B431 H432 s433 m_well_here r435 => ?_
                  replace r429 := r429.mono s433.ex
                  replace st := st.go s433 (go1 (.inl (by simp)))
                  replace w := s433.ok
                  refine h_nil ?_
                  refine h_newT w (K := K) (.cons r435 .nil) (fun p436 B437 H438 s439 r440 => ?_) (by show 1 ≤ sizeLine; decide)
                  replace m_well_here := m_well_here.step s439 nm0
                  replace r429 := r429.mono s439.ex
                  replace st := st.go s439 go0
                  replace w := s439.ok
                  replace r440 : Rep K B437 (.ref p436) (enc (⟨x430.1⟩ : (Tp1 D))) := r440
                  obtain ⟨l441, hl442, P⟩ := P.asT
                  have rc443 := r429
                  rw [hl442] at rc443
                  obtain ⟨p444, xs445, rfl, hs446, hr447⟩ := Rep.st w rc443
                  have rt1 : Rep K B437 (.ref p436) (enc (⟨x430.1⟩ : (Tp1 D))) := r440
                  obtain ⟨l448, hl449, P⟩ := P.asT
                  have rc450 := rt1
                  rw [hl449] at rc450
                  obtain ⟨p451, xs452, hv, hs453, hr454⟩ := Rep.st w rc450
                  cases hv
                  obtain ⟨gd, P⟩ := P.guard
                  refine h_catA w rc443 rc450 gd (fun u455 B456 H457 s458 r459 => ?_)
                  replace m_well_here := m_well_here.step s458 nm0
                  replace st := st.go s458 go0
                  replace w := s458.ok
                  replace r459 : Rep K B456 u455 (enc (.tup ((l441 ++ l448).map enc) : D)) := r459
                  refine h_sl ?_
                  refine h_var rfl ?_
                  refine h_part ?_
                  refine h_op ?_
                  refine h_var rfl ?_
                  refine h_c ?_
                  refine h_I0 ?_
                  refine h_isI ?_
                  refine h_nopart ?_
                  obtain ⟨l460, hl461, P⟩ := P.asT
                  have rc462 := (r_row.mono st.ex)
                  rw [hl461] at rc462
                  obtain ⟨p463, xs464, hv, hs465, hr466⟩ := Rep.st w rc462
                  cases hv
                  refine h_slA w rc462 (fun u467 B468 H469 s470 r471 => ?_)
                  replace m_well_here := m_well_here.step s470 nm0
                  replace r459 := r459.mono s470.ex
                  replace st := st.go s470 go0
                  replace w := s470.ok
                  replace r471 : Rep K B468 u467 (enc (.tup ((cutL l460 (some (x116 + 1)) none).map enc) : D)) := r471
                  obtain ⟨l472, hl473, P⟩ := P.asT
                  have rc474 := r459
                  rw [hl473] at rc474
                  obtain ⟨p475, xs476, rfl, hs477, hr478⟩ := Rep.st w rc474
                  obtain ⟨l479, hl480, P⟩ := P.asT
                  have rc481 := r471
                  rw [hl480] at rc481
                  obtain ⟨p482, xs483, rfl, hs484, hr485⟩ := Rep.st w rc481
                  obtain ⟨gd, P⟩ := P.guard
                  refine h_catA w rc474 rc481 gd (fun u486 B487 H488 s489 r490 => ?_)
                  replace m_well_here := m_well_here.step s489 nm0
                  replace st := st.go s489 go0
                  replace w := s489.ok
                  replace r490 : Rep K B487 u486 (enc (.tup ((l472 ++ l479).map enc) : D)) := r490
                  exact P.ok _ _ _ st m_well_here r490
  exact main 9
theorem ok__law_thing {f : Addr} {fd : FuncData}  (F : Fun K "_law_thing" "_law_thing" s__law_thing f fd) {f__law_draw : Addr} {d__law_draw : FuncData} (g__law_draw : mg "_law_draw" = some (.ref f__law_draw)) (k__law_draw : PySem.W.keepIn K (.ref f__law_draw) = true) (b__law_draw : L2.Binds K d__law_draw ["_law_well_here", "_law_many"] []) (G__law_draw : FnOk Pr wo K mg base CX0 1 f__law_draw d__law_draw ["_law_well_here", "_law_many"] (sp__law_draw K)) (bI_list : mg "list" = none) : FnOk Pr wo K mg base CX0 2 f fd ["_law_well_here", "_law_row"] (sp__law_thing K) := by
  refine F.ok sc__law_thing (fun vs H Q E h => ?_) (fun cdv A outer s H0 vs Q E hr h => ?_)
  · obtain ⟨_, _, _, _, _, _, rfl, _⟩ := h; rfl
  · obtain ⟨B0, p_well_here, a_well_here, v_row, a_row, w, rfl, m_well_here, r_row, P⟩ := h
    have w0 := w
    have hu := hu_of hr
    have hu64 := hu64_of hr
    have hr1 : Room 1 _ := hr.mono (by decide)
    refine ⟨_, (pss_cons (ps_set (i := 2) sc__law_thing.nd rfl (by first | exact Or.inl rfl | exact Or.inr rfl) (pe_call G__law_draw hr1 rfl g__law_draw k__law_draw b__law_draw .nil pass0 (pa_cons (pv 0) (pa_cons pe_int pa_nil))))
      (pss_cons (ps_set (i := 3) sc__law_thing.nd rfl (by first | exact Or.inl rfl | exact Or.inr rfl) (pe_lst (pa_cons pe_non (pa_cons pe_int (pa_cons pe_str (pa_cons pe_bl (pa_cons pe_dnewK (pa_cons pe_str (pa_cons (pe_lst (pa_cons (pv 1) pa_nil)) (pa_cons (pe_disp (pps_cons pe_str (pv 1) pps_nil) rfl rfl (by simp) (by show 1 ≤ 15; decide)) (pa_cons (pe_tup (pa_cons (pv 1) pa_nil)) (pa_cons (pe_tup (pa_cons (pe_tup pa_nil) (pa_cons (pe_tup pa_nil) (pa_cons (pe_tup pa_nil) (pa_cons (pe_tup pa_nil) pa_nil))))) pa_nil))))))))))))
      (pss_cons (ps_if (pt_cmpR op_lt (pv 2) pe_int (nomark _)) (pss_one (ps_ret (pe_ix (r := rIxL K) ix_list (pv 3) (pv 2) (fun _ _ => rfl)))) pss_nil)
      (pss_one (ps_ret (pe_callTy (r := rListY K) cr_list (by rfl) bI_list Y.boot_list (pa_cons (pv 1) pa_nil))))))), ?_⟩
    unfold l_thing at P
    have st := Stp.refl (W := [p_well_here]) w
    refine h_set ?_
    refine h_call ?_
    refine h_cons ?_
    refine h_var rfl ?_
    refine h_cons ?_
    refine h_c ?_
    refine h_nil ?_
    refine ⟨B0, p_well_here, a_well_here, 12, w, rfl, m_well_here, (P.bind).mono (fun x1 P => ?_) (fun _ z => z)⟩
    refine fun v5 B2 H3 s4 m_well_here r6 => ?_
    replace st := st.go s4 (go1 (.inl (by simp)))
    replace w := s4.ok
    cases r6
    refine h_set ?_
    refine h_lst ?_
    refine h_cons ?_
    refine h_c ?_
    refine h_cons ?_
    refine h_c ?_
    refine h_cons ?_
    refine h_c ?_
    refine h_cons ?_
    refine h_c ?_
    refine h_cons ?_
    refine h_dnew w (K := K) (fun p7 B8 H9 s10 r11 => ?_)
    replace m_well_here := m_well_here.step s10 nm0
    replace st := st.go s10 go0
    replace w := s10.ok
    refine h_cons ?_
    refine h_c ?_
    refine h_cons ?_
    refine h_lst ?_
    refine h_cons ?_
    refine h_var rfl ?_
    refine h_nil ?_
    refine h_newL w (ds := (([a_row] : List D)).map enc) (K := K) (.cons (r_row.mono st.ex) .nil) (fun p12 B13 H14 s15 r16 => ?_) (by show 1 ≤ sizeLine; decide)
    replace m_well_here := m_well_here.step s15 nm0
    replace r11 := r11.mono s15.ex
    replace st := st.go s15 go0
    replace w := s15.ok
    replace r16 : Rep K B13 (.ref p12) (enc ([a_row] : List D)) := r16
    refine h_cons ?_
    refine h_disp1S (K := K) (x := ("full" : Str)) (v := v_row) (fun _ _ q => h_c q) (fun _ _ q => h_var rfl q) w (r_row.mono st.ex) (fun p17 B18 H19 s20 r21 => ?_)
    replace m_well_here := m_well_here.step s20 nm0
    replace r11 := r11.mono s20.ex
    replace r16 := r16.mono s20.ex
    replace st := st.go s20 go0
    replace w := s20.ok
    refine h_cons ?_
    refine h_tup ?_
    refine h_cons ?_
    refine h_var rfl ?_
    refine h_nil ?_
    refine h_newT w (K := K) (.cons (r_row.mono st.ex) .nil) (fun p22 B23 H24 s25 r26 => ?_) (by show 1 ≤ sizeLine; decide)
    replace m_well_here := m_well_here.step s25 nm0
    replace r11 := r11.mono s25.ex
    replace r16 := r16.mono s25.ex
    replace r21 := r21.mono s25.ex
    replace st := st.go s25 go0
    replace w := s25.ok
    replace r26 : Rep K B23 (.ref p22) (enc (⟨a_row⟩ : (Tp1 D))) := r26
    refine h_cons ?_
    refine h_tup ?_
    refine h_cons ?_
    refine h_tup ?_
    refine h_nil ?_
    refine h_newT w (K := K) .nil (fun p27 B28 H29 s30 r31 => ?_) (by show 0 ≤ sizeLine; decide)
    replace m_well_here := m_well_here.step s30 nm0
    replace r11 := r11.mono s30.ex
    replace r16 := r16.mono s30.ex
    replace r21 := r21.mono s30.ex
    replace r26 := r26.mono s30.ex
    replace st := st.go s30 go0
    replace w := s30.ok
    replace r31 : Rep K B28 (.ref p27) (enc (.tup [] : D)) := r31
    refine h_cons ?_
    refine h_tup ?_
    refine h_nil ?_
    refine h_newT w (K := K) .nil (fun p32 B33 H34 s35 r36 => ?_) (by show 0 ≤ sizeLine; decide)
    replace m_well_here := m_well_here.step s35 nm0
    replace r11 := r11.mono s35.ex
    replace r16 := r16.mono s35.ex
    replace r21 := r21.mono s35.ex
    replace r26 := r26.mono s35.ex
    replace r31 := r31.mono s35.ex
    replace st := st.go s35 go0
    replace w := s35.ok
    replace r36 : Rep K B33 (.ref p32) (enc (.tup [] : D)) := r36
    refine h_cons ?_
    refine h_tup ?_
    refine h_nil ?_
    refine h_newT w (K := K) .nil (fun p37 B38 H39 s40 r41 => ?_) (by show 0 ≤ sizeLine; decide)
    replace m_well_here := m_well_here.step s40 nm0
    replace r11 := r11.mono s40.ex
    replace r16 := r16.mono s40.ex
    replace r21 := r21.mono s40.ex
    replace r26 := r26.mono s40.ex
    replace r31 := r31.mono s40.ex
    replace r36 := r36.mono s40.ex
    replace st := st.go s40 go0
    replace w := s40.ok
    replace r41 : Rep K B38 (.ref p37) (enc (.tup [] : D)) := r41
    refine h_cons ?_
    refine h_tup ?_
    refine h_nil ?_
    refine h_newT w (K := K) .nil (fun p42 B43 H44 s45 r46 => ?_) (by show 0 ≤ sizeLine; decide)
    replace m_well_here := m_well_here.step s45 nm0
    replace r11 := r11.mono s45.ex
    replace r16 := r16.mono s45.ex
    replace r21 := r21.mono s45.ex
    replace r26 := r26.mono s45.ex
    replace r31 := r31.mono s45.ex
    replace r36 := r36.mono s45.ex
    replace r41 := r41.mono s45.ex
    replace st := st.go s45 go0
    replace w := s45.ok
    replace r46 : Rep K B43 (.ref p42) (enc (.tup [] : D)) := r46
    refine h_nil ?_
    refine h_newT w (K := K) (.cons r31 (.cons r36 (.cons r41 (.cons r46 .nil)))) (fun p47 B48 H49 s50 r51 => ?_) (by show 4 ≤ sizeLine; decide)
    replace m_well_here := m_well_here.step s50 nm0
    replace r11 := r11.mono s50.ex
    replace r16 := r16.mono s50.ex
    replace r21 := r21.mono s50.ex
    replace r26 := r26.mono s50.ex
    replace st := st.go s50 go0
    replace w := s50.ok
    replace r51 : Rep K B48 (.ref p47) (enc (⟨(.tup [] : D), (.tup [] : D), (.tup [] : D), (.tup [] : D)⟩ : (Tp4 D D D D))) := r51
    refine h_nil ?_
    refine h_newL w (ds := (([(enc ()), (enc (5 : Int)), (enc ("full" : Str)), (enc true), (.dic [] : D), (enc ("" : Str)), (enc ([a_row] : List D)), (.dic [(.inr ("full" : Str), a_row)] : D), (enc (⟨a_row⟩ : (Tp1 D))), (enc (⟨(.tup [] : D), (.tup [] : D), (.tup [] : D), (.tup [] : D)⟩ : (Tp4 D D D D)))] : List D)).map enc) (K := K) (.cons Rep.non (.cons (Rep.int _) (.cons (Rep.str _) (.cons (Rep.bl _) (.cons r11 (.cons (Rep.str _) (.cons r16 (.cons r21 (.cons r26 (.cons r51 .nil)))))))))) (fun p52 B53 H54 s55 r56 => ?_) (by show 10 ≤ sizeLine; decide)
    replace m_well_here := m_well_here.step s55 nm0
    replace st := st.go s55 go0
    replace w := s55.ok
    replace r56 : Rep K B53 (.ref p52) (enc ([(enc ()), (enc (5 : Int)), (enc ("full" : Str)), (enc true), (.dic [] : D), (enc ("" : Str)), (enc ([a_row] : List D)), (.dic [(.inr ("full" : Str), a_row)] : D), (enc (⟨a_row⟩ : (Tp1 D))), (enc (⟨(.tup [] : D), (.tup [] : D), (.tup [] : D), (.tup [] : D)⟩ : (Tp4 D D D D)))] : List D)) := r56
    refine h_seq <| h_if ?_
    refine h_test ?_
    refine h_op ?_
    refine h_var rfl ?_
    refine h_c ?_
    refine h_I0 ?_
    refine h_bl ?_
    refine h_ite (fun c1 => ?_) (fun c1 => ?_)
    · replace P := P.iteT c1
      refine h_ret ?_
      refine h_op ?_
      refine h_var rfl ?_
      refine h_var rfl ?_
      obtain ⟨p57, xs58, hv, hs59, hr60⟩ := Rep.sq w r56
      cases hv
      obtain ⟨x61, hx62, P⟩ := P.ix
      obtain ⟨u63, hu, r64⟩ := RepL.atE hr60 hx62
      refine h_ixL hs59 hu ?_
      exact P.ok _ _ _ st m_well_here r64
    · replace P := P.iteF c1
      refine h_next ?_
      refine h_nx ?_
      refine h_ret ?_
      refine h_cb ?_
      refine h_cons ?_
      refine h_var rfl ?_
      refine h_nil ?_
      obtain ⟨l65, hl66, P⟩ := P.asT
      have rc67 := (r_row.mono st.ex)
      rw [hl66] at rc67
      obtain ⟨p68, xs69, rfl, hs70, hr71⟩ := Rep.st w rc67
      refine h_listT hs70 ?_
      refine h_nwL w (ds := (l65).map enc) (K := K) hr71 (fun p72 B73 H74 s75 r76 => ?_) 
      replace m_well_here := m_well_here.step s75 nm0
      replace r56 := r56.mono s75.ex
      replace st := st.go s75 go0
      replace w := s75.ok
      replace r76 : Rep K B73 (.ref p72) (enc l65) := r76
      exact P.ok _ _ _ st m_well_here r76
theorem ok__law_within {f : Addr} {fd : FuncData}  (F : Fun K "_law_within" "_law_within" s__law_within f fd) {f__law_whole : Addr} {d__law_whole : FuncData} (g__law_whole : mg "_law_whole" = some (.ref f__law_whole)) (k__law_whole : PySem.W.keepIn K (.ref f__law_whole) = true) (b__law_whole : L2.Binds K d__law_whole ["_law_thing_here"] []) (G__law_whole : FnOk Pr wo K mg base CX0 1 f__law_whole d__law_whole ["_law_thing_here"] (sp__law_whole K)) : FnOk Pr wo K mg base CX0 2 f fd ["_law_thing_here", "_law_low", "_law_high"] (sp__law_within K) := by
  refine F.ok sc__law_within (fun vs H Q E h => ?_) (fun cdv A outer s H0 vs Q E hr h => ?_)
  · obtain ⟨_, _, _, _, _, _, rfl, _⟩ := h; rfl
  · obtain ⟨B0, v_thing_here, a_thing_here, a_low, a_high, w, rfl, r_thing_here, P⟩ := h
    have w0 := w
    have hu := hu_of hr
    have hu64 := hu64_of hr
    have hr1 : Room 1 _ := hr.mono (by decide)
    refine ⟨_, (pss_one (ps_ret (pe_and (pe_call G__law_whole hr1 rfl g__law_whole k__law_whole b__law_whole .nil pass0 (pa_cons (pv 0) pa_nil)) (pe_one (pe_chain op_le op_le (pv 1) (pv 0) (pv 2)))))), ?_⟩
    unfold l_within at P
    have st := Stp.refl (W := []) w
    refine h_ret ?_
    refine h_and ?_
    refine h_call ?_
    refine h_cons ?_
    refine h_var rfl ?_
    refine h_nil ?_
    refine ⟨B0, v_thing_here, a_thing_here, w, rfl, (r_thing_here.mono st.ex), (P.bind).mono (fun x1 P => ?_) (fun _ z => z)⟩
    refine fun v5 B2 H3 s4 r6 => ?_
    replace st := st.go s4 go0
    replace w := s4.ok
    cases r6
    refine h_bl ?_
    refine h_ite (fun c1 => ?_) (fun c1 => ?_)
    · replace P := P.iteT c1
      refine h_chain ?_
      refine h_var rfl ?_
      refine h_var rfl ?_
      obtain ⟨i7, hi8, P⟩ := P.asI
      have rc9 := (r_thing_here.mono st.ex)
      rw [hi8] at rc9
      cases rc9
      refine h_I0 ?_
      refine h_bl ?_
      refine h_ite (fun c1 => ?_) (fun c1 => ?_)
      · replace P := P.iteT c1
        refine h_var rfl ?_
        refine h_I0 ?_
        exact P.ok _ _ _ st (Rep.bl _)
      · replace P := P.iteF c1
        exact P.ok _ _ _ st (Rep.bl _)
    · replace P := P.iteF c1
      exact P.ok _ _ _ st (Rep.bl _)
theorem ok__law_is_rule {f : Addr} {fd : FuncData}  (F : Fun K "_law_is_rule" "_law_is_rule" s__law_is_rule f fd) {f__law_within : Addr} {d__law_within : FuncData} (g__law_within : mg "_law_within" = some (.ref f__law_within)) (k__law_within : PySem.W.keepIn K (.ref f__law_within) = true) (b__law_within : L2.Binds K d__law_within ["_law_thing_here", "_law_low", "_law_high"] []) (G__law_within : FnOk Pr wo K mg base CX0 2 f__law_within d__law_within ["_law_thing_here", "_law_low", "_law_high"] (sp__law_within K)) (bI_isinstance : mg "isinstance" = none) (bI_tuple : mg "tuple" = none) (bI_len : mg "len" = none) (bI_str : mg "str" = none) : FnOk Pr wo K mg base CX0 3 f fd ["_law_thing_here"] (sp__law_is_rule K) := by
  refine F.ok sc__law_is_rule (fun vs H Q E h => ?_) (fun cdv A outer s H0 vs Q E hr h => ?_)
  · obtain ⟨_, _, _, _, rfl, _⟩ := h; rfl
  · obtain ⟨B0, v_thing_here, a_thing_here, w, rfl, r_thing_here, P⟩ := h
    have w0 := w
    have hu := hu_of hr
    have hu64 := hu64_of hr
    have hr2 : Room 2 _ := hr.mono (by decide)
    refine ⟨_, (pss_cons (ps_if (PW.pt (pw_or (pt_not (pt_val (pe_callB (r := rIsi K) call_isi (by rfl) bI_isinstance PyProof.Rows.boot_isinstance (pa_cons (pv 0) (pa_cons (pe_bltn (v := .ty "tuple") (by rfl) bI_tuple Y.boot_tuple rfl) pa_nil))))) (pw_or (pt_cmpR op_eq (pe_callB (r := rLenY K) cr_len (by rfl) bI_len PySem.boot_len (pa_cons (pv 0) pa_nil)) pe_int (nomark _)) (pw_or1 (pt_not (pt_val (pe_callB (r := rIsi K) call_isi (by rfl) bI_isinstance PyProof.Rows.boot_isinstance (pa_cons (pe_ix (r := rIxT K) ix_tup (pv 0) pe_int (fun _ _ => rfl)) (pa_cons (pe_bltn (v := .ty "str") (by rfl) bI_str Y.boot_str rfl) pa_nil))))))))) (pss_one (ps_ret pe_bl)) pss_nil)
      (pss_cons (ps_if (pt_cmpR (r := rEqD K) (op_eqD hu64) (pe_ix (r := rIxT K) ix_tup (pv 0) pe_int (fun _ _ => rfl)) pe_str (nomark _)) (pss_one (ps_ret (pe_and (pe_cmpR op_eq (pe_callB (r := rLenY K) cr_len (by rfl) bI_len PySem.boot_len (pa_cons (pv 0) pa_nil)) pe_int (nomark _)) (pe_one (pe_call G__law_within hr2 rfl g__law_within k__law_within b__law_within .nil pass0 (pa_cons (pe_ix (r := rIxT K) ix_tup (pv 0) pe_int (fun _ _ => rfl)) (pa_cons pe_int (pa_cons pe_int pa_nil)))))))) pss_nil)
      (pss_cons (ps_if (PW.pt (pw_and (pt_cmpR (r := rNeD K) (op_neD hu64) (pe_ix (r := rIxT K) ix_tup (pv 0) pe_int (fun _ _ => rfl)) pe_str (nomark _)) (pw_and1 (pt_cmpR (r := rNeD K) (op_neD hu64) (pe_ix (r := rIxT K) ix_tup (pv 0) pe_int (fun _ _ => rfl)) pe_str (nomark _))))) (pss_one (ps_ret pe_bl)) pss_nil)
      (pss_cons (ps_if (PW.pt (pw_or (pt_cmpR op_lt (pe_callB (r := rLenY K) cr_len (by rfl) bI_len PySem.boot_len (pa_cons (pv 0) pa_nil)) pe_int (nomark _)) (pw_or (pt_not (pt_val (pe_call G__law_within hr2 rfl g__law_within k__law_within b__law_within .nil pass0 (pa_cons (pe_ix (r := rIxT K) ix_tup (pv 0) pe_int (fun _ _ => rfl)) (pa_cons pe_int (pa_cons pe_int pa_nil)))))) (pw_or1 (pt_not (pt_val (pe_call G__law_within hr2 rfl g__law_within k__law_within b__law_within .nil pass0 (pa_cons (pe_ix (r := rIxT K) ix_tup (pv 0) pe_int (fun _ _ => rfl)) (pa_cons pe_int (pa_cons pe_int pa_nil)))))))))) (pss_one (ps_ret pe_bl)) pss_nil)
      (pss_cons (ps_if (pt_cmpR (r := rEqD K) (op_eqD hu64) (pe_ix (r := rIxT K) ix_tup (pv 0) pe_int (fun _ _ => rfl)) pe_str (nomark _)) (pss_one (ps_ret (pe_and (pe_cmpR op_eq (pe_callB (r := rLenY K) cr_len (by rfl) bI_len PySem.boot_len (pa_cons (pv 0) pa_nil)) pe_int (nomark _)) (pe_one (pe_call G__law_within hr2 rfl g__law_within k__law_within b__law_within .nil pass0 (pa_cons (pe_ix (r := rIxT K) ix_tup (pv 0) pe_int (fun _ _ => rfl)) (pa_cons pe_int (pa_cons pe_int pa_nil)))))))) pss_nil)
      (pss_one (ps_ret (pe_and (pe_cmpR op_eq (pe_callB (r := rLenY K) cr_len (by rfl) bI_len PySem.boot_len (pa_cons (pv 0) pa_nil)) pe_int (nomark _)) (pe_and (pe_call G__law_within hr2 rfl g__law_within k__law_within b__law_within .nil pass0 (pa_cons (pe_ix (r := rIxT K) ix_tup (pv 0) pe_int (fun _ _ => rfl)) (pa_cons pe_int (pa_cons pe_int pa_nil)))) (pe_one (pe_call G__law_within hr2 rfl g__law_within k__law_within b__law_within .nil pass0 (pa_cons (pe_ix (r := rIxT K) ix_tup (pv 0) pe_int (fun _ _ => rfl)) (pa_cons pe_int (pa_cons pe_int pa_nil)))))))))))))), ?_⟩
    unfold l_is_rule at P
    have st := Stp.refl (W := []) w
    refine h_seq <| h_if ?_
    refine h_tor ?_
    refine h_tnot ?_
    refine h_tB ?_
    refine h_cb ?_
    refine h_cons ?_
    refine h_var rfl ?_
    refine h_cons ?_
    refine h_c ?_
    refine h_nil ?_
    refine isi (t := "tuple") w (r_thing_here.mono st.ex) ?_
    refine h_bl ?_
    refine h_iteN (fun c1 => ?_) (fun c1 => ?_)
    · replace P := P.iteF c1
      refine h_iteT ?_
      refine h_ret ?_
      refine h_c ?_
      exact P.ok _ _ _ st (Rep.bl _)
    · replace P := P.iteT c1
      refine h_tor ?_
      refine h_test ?_
      refine h_op ?_
      refine h_cb ?_
      refine h_cons ?_
      refine h_var rfl ?_
      refine h_nil ?_
      obtain ⟨l1, hl2, P⟩ := P.asT
      have rc3 := (r_thing_here.mono st.ex)
      rw [hl2] at rc3
      obtain ⟨p4, xs5, rfl, hs6, hr7⟩ := Rep.st w rc3
      refine h_lenTl hs6 hr7 ?_
      refine h_c ?_
      refine h_eqI ?_
      refine h_bl ?_
      refine h_ite (fun c1 => ?_) (fun c1 => ?_)
      · replace P := P.iteT c1
        refine h_iteT ?_
        refine h_ret ?_
        refine h_c ?_
        exact P.ok _ _ _ st (Rep.bl _)
      · replace P := P.iteF c1
        refine h_tnot ?_
        refine h_tB ?_
        refine h_cb ?_
        refine h_cons ?_
        refine h_op ?_
        refine h_var rfl ?_
        refine h_c ?_
        obtain ⟨l8, hl9, P⟩ := P.asT
        have rc10 := (r_thing_here.mono st.ex)
        rw [hl9] at rc10
        obtain ⟨p11, xs12, hv, hs13, hr14⟩ := Rep.st w rc10
        cases hv
        obtain ⟨x15, hx16, P⟩ := P.ix
        obtain ⟨u17, hu, r18⟩ := RepL.atE hr14 hx16
        refine h_ixT hs13 hu ?_
        refine h_cons ?_
        refine h_c ?_
        refine h_nil ?_
        refine isi (t := "str") w r18 ?_
        refine h_bl ?_
        refine h_iteN (fun c1 => ?_) (fun c1 => ?_)
        · replace P := P.iteF c1
          refine h_ret ?_
          refine h_c ?_
          exact P.ok _ _ _ st (Rep.bl _)
        · replace P := P.iteT c1
          refine h_next ?_
          refine h_nx ?_
          refine h_seq <| h_if ?_
          refine h_test ?_
          refine h_op ?_
          refine h_op ?_
          refine h_var rfl ?_
          refine h_c ?_
          obtain ⟨l19, hl20, P⟩ := P.asT
          have rc21 := (r_thing_here.mono st.ex)
          rw [hl20] at rc21
          obtain ⟨p22, xs23, hv, hs24, hr25⟩ := Rep.st w rc21
          cases hv
          obtain ⟨x26, hx27, P⟩ := P.ix
          obtain ⟨u28, hu, r29⟩ := RepL.atE hr25 hx27
          refine h_ixT hs24 hu ?_
          refine h_c ?_
          obtain ⟨gd, P⟩ := P.guard
          refine h_eqD (d := x26) (e := (enc ("plain" : Str))) w r29 (Rep.str _) gd ?_
          refine h_bl ?_
          refine h_ite (fun c1 => ?_) (fun c1 => ?_)
          · replace P := P.iteT c1
            refine h_ret ?_
            refine h_and ?_
            refine h_op ?_
            refine h_cb ?_
            refine h_cons ?_
            refine h_var rfl ?_
            refine h_nil ?_
            obtain ⟨l30, hl31, P⟩ := P.asT
            have rc32 := (r_thing_here.mono st.ex)
            rw [hl31] at rc32
            obtain ⟨p33, xs34, hv, hs35, hr36⟩ := Rep.st w rc32
            cases hv
            refine h_lenTl hs35 hr36 ?_
            refine h_c ?_
            refine h_eqI ?_
            refine h_bl ?_
            refine h_ite (fun c1 => ?_) (fun c1 => ?_)
            · replace P := P.iteT c1
              refine h_call ?_
              refine h_cons ?_
              refine h_op ?_
              refine h_var rfl ?_
              refine h_c ?_
              obtain ⟨l37, hl38, P⟩ := P.asT
              have rc39 := (r_thing_here.mono st.ex)
              rw [hl38] at rc39
              obtain ⟨p40, xs41, hv, hs42, hr43⟩ := Rep.st w rc39
              cases hv
              obtain ⟨x44, hx45, P⟩ := P.ix
              obtain ⟨u46, hu, r47⟩ := RepL.atE hr43 hx45
              refine h_ixT hs42 hu ?_
              refine h_cons ?_
              refine h_c ?_
              refine h_cons ?_
              refine h_c ?_
              refine h_nil ?_
              refine ⟨B0, u46, x44, 0, 255, w, rfl, r47, (P.bind).mono (fun x48 P => ?_) (fun _ z => z)⟩
              refine fun v52 B49 H50 s51 r53 => ?_
              replace r47 := r47.mono s51.ex
              replace st := st.go s51 go0
              replace w := s51.ok
              cases r53
              exact P.ok _ _ _ st (Rep.bl _)
            · replace P := P.iteF c1
              exact P.ok _ _ _ st (Rep.bl _)
          · replace P := P.iteF c1
            refine h_next ?_
            refine h_nx ?_
            refine h_seq <| h_if ?_
            have wj55 := w
            have sj54 := Stp.refl (W := []) w
            refine h_condJ P (fun H' => ∃ B', Stp [] B0 H0 B' H') (fun N kk56 P => ?_) ?_
            · skip
              refine h_tand ?_
              refine h_test ?_
              refine h_op ?_
              refine h_op ?_
              refine h_var rfl ?_
              refine h_c ?_
              obtain ⟨l57, hl58, P⟩ := P.asT
              have rc59 := (r_thing_here.mono st.ex)
              rw [hl58] at rc59
              obtain ⟨p60, xs61, hv, hs62, hr63⟩ := Rep.st w rc59
              cases hv
              obtain ⟨x64, hx65, P⟩ := P.ix
              obtain ⟨u66, hu, r67⟩ := RepL.atE hr63 hx65
              refine h_ixT hs62 hu ?_
              refine h_c ?_
              obtain ⟨gd, P⟩ := P.guard
              refine h_neD (d := x64) (e := (enc ("moved" : Str))) w r67 (Rep.str _) gd ?_
              refine h_bl ?_
              refine h_ite (fun c1 => ?_) (fun c1 => ?_)
              · replace P := P.iteT c1
                refine h_test ?_
                refine h_op ?_
                refine h_op ?_
                refine h_var rfl ?_
                refine h_c ?_
                obtain ⟨l68, hl69, P⟩ := P.asT
                have rc70 := (r_thing_here.mono st.ex)
                rw [hl69] at rc70
                obtain ⟨p71, xs72, hv, hs73, hr74⟩ := Rep.st w rc70
                cases hv
                obtain ⟨x75, hx76, P⟩ := P.ix
                obtain ⟨u77, hu, r78⟩ := RepL.atE hr74 hx76
                refine h_ixT hs73 hu ?_
                refine h_c ?_
                obtain ⟨gd, P⟩ := P.guard
                refine h_neD (d := x75) (e := (enc ("mixed" : Str))) w r78 (Rep.str _) gd ?_
                refine h_bl ?_
                exact kk56 _ _ ⟨_, sj54⟩ P.ok
              · replace P := P.iteF c1
                exact kk56 _ _ ⟨_, sj54⟩ P.ok
            rintro b79 H81 ⟨B80, s82⟩ P
            replace st := st.go s82 go0
            replace w := s82.ok
            refine h_ite (fun c1 => ?_) (fun c1 => ?_)
            · replace P := P.iteT c1
              refine h_ret ?_
              refine h_c ?_
              exact P.ok _ _ _ st (Rep.bl _)
            · replace P := P.iteF c1
              refine h_next ?_
              refine h_nx ?_
              refine h_seq <| h_if ?_
              refine h_tor ?_
              refine h_test ?_
              refine h_op ?_
              refine h_cb ?_
              refine h_cons ?_
              refine h_var rfl ?_
              refine h_nil ?_
              obtain ⟨l83, hl84, P⟩ := P.asT
              have rc85 := (r_thing_here.mono st.ex)
              rw [hl84] at rc85
              obtain ⟨p86, xs87, hv, hs88, hr89⟩ := Rep.st w rc85
              cases hv
              refine h_lenTl hs88 hr89 ?_
              refine h_c ?_
              refine h_I0 ?_
              refine h_bl ?_
              refine h_ite (fun c1 => ?_) (fun c1 => ?_)
              · replace P := P.iteT c1
                refine h_iteT ?_
                refine h_ret ?_
                refine h_c ?_
                exact P.ok _ _ _ st (Rep.bl _)
              · replace P := P.iteF c1
                refine h_tor ?_
                refine h_tnot ?_
                refine h_tB ?_
                refine h_call ?_
                refine h_cons ?_
                refine h_op ?_
                refine h_var rfl ?_
                refine h_c ?_
                obtain ⟨l90, hl91, P⟩ := P.asT
                have rc92 := (r_thing_here.mono st.ex)
                rw [hl91] at rc92
                obtain ⟨p93, xs94, hv, hs95, hr96⟩ := Rep.st w rc92
                cases hv
                obtain ⟨x97, hx98, P⟩ := P.ix
                obtain ⟨u99, hu, r100⟩ := RepL.atE hr96 hx98
                refine h_ixT hs95 hu ?_
                refine h_cons ?_
                refine h_c ?_
                refine h_cons ?_
                refine h_c ?_
                refine h_nil ?_
                refine ⟨B80, u99, x97, 1, 200, w, rfl, r100, (P.bind).mono (fun x101 P => ?_) (fun _ z => z)⟩
                refine fun v105 B102 H103 s104 r106 => ?_
                replace r100 := r100.mono s104.ex
                replace st := st.go s104 go0
                replace w := s104.ok
                cases r106
                refine h_bl ?_
                refine h_iteN (fun c1 => ?_) (fun c1 => ?_)
                · replace P := P.iteF c1
                  refine h_iteT ?_
                  refine h_ret ?_
                  refine h_c ?_
                  exact P.ok _ _ _ st (Rep.bl _)
                · replace P := P.iteT c1
                  refine h_tnot ?_
                  refine h_tB ?_
                  refine h_call ?_
                  refine h_cons ?_
                  refine h_op ?_
                  refine h_var rfl ?_
                  refine h_c ?_
                  obtain ⟨l107, hl108, P⟩ := P.asT
                  have rc109 := (r_thing_here.mono st.ex)
                  rw [hl108] at rc109
                  obtain ⟨p110, xs111, hv, hs112, hr113⟩ := Rep.st w rc109
                  cases hv
                  obtain ⟨x114, hx115, P⟩ := P.ix
                  obtain ⟨u116, hu, r117⟩ := RepL.atE hr113 hx115
                  refine h_ixT hs112 hu ?_
                  refine h_cons ?_
                  refine h_c ?_
                  refine h_cons ?_
                  refine h_c ?_
                  refine h_nil ?_
                  refine ⟨B102, u116, x114, 0, 15, w, rfl, r117, (P.bind).mono (fun x118 P => ?_) (fun _ z => z)⟩
                  refine fun v122 B119 H120 s121 r123 => ?_
                  replace r117 := r117.mono s121.ex
                  replace st := st.go s121 go0
                  replace w := s121.ok
                  cases r123
                  refine h_bl ?_
                  refine h_iteN (fun c1 => ?_) (fun c1 => ?_)
                  · replace P := P.iteF c1
                    refine h_ret ?_
                    refine h_c ?_
                    exact P.ok _ _ _ st (Rep.bl _)
                  · replace P := P.iteT c1
                    refine h_next ?_
                    refine h_nx ?_
                    refine h_seq <| h_if ?_
                    refine h_test ?_
                    refine h_op ?_
                    refine h_op ?_
                    refine h_var rfl ?_
                    refine h_c ?_
                    obtain ⟨l124, hl125, P⟩ := P.asT
                    have rc126 := (r_thing_here.mono st.ex)
                    rw [hl125] at rc126
                    obtain ⟨p127, xs128, hv, hs129, hr130⟩ := Rep.st w rc126
                    cases hv
                    obtain ⟨x131, hx132, P⟩ := P.ix
                    obtain ⟨u133, hu, r134⟩ := RepL.atE hr130 hx132
                    refine h_ixT hs129 hu ?_
                    refine h_c ?_
                    obtain ⟨gd, P⟩ := P.guard
                    refine h_eqD (d := x131) (e := (enc ("moved" : Str))) w r134 (Rep.str _) gd ?_
                    refine h_bl ?_
                    refine h_ite (fun c1 => ?_) (fun c1 => ?_)
                    · replace P := P.iteT c1
                      refine h_ret ?_
                      refine h_and ?_
                      refine h_op ?_
                      refine h_cb ?_
                      refine h_cons ?_
                      refine h_var rfl ?_
                      refine h_nil ?_
                      obtain ⟨l135, hl136, P⟩ := P.asT
                      have rc137 := (r_thing_here.mono st.ex)
                      rw [hl136] at rc137
                      obtain ⟨p138, xs139, hv, hs140, hr141⟩ := Rep.st w rc137
                      cases hv
                      refine h_lenTl hs140 hr141 ?_
                      refine h_c ?_
                      refine h_eqI ?_
                      refine h_bl ?_
                      refine h_ite (fun c1 => ?_) (fun c1 => ?_)
                      · replace P := P.iteT c1
                        refine h_call ?_
                        refine h_cons ?_
                        refine h_op ?_
                        refine h_var rfl ?_
                        refine h_c ?_
                        obtain ⟨l142, hl143, P⟩ := P.asT
                        have rc144 := (r_thing_here.mono st.ex)
                        rw [hl143] at rc144
                        obtain ⟨p145, xs146, hv, hs147, hr148⟩ := Rep.st w rc144
                        cases hv
                        obtain ⟨x149, hx150, P⟩ := P.ix
                        obtain ⟨u151, hu, r152⟩ := RepL.atE hr148 hx150
                        refine h_ixT hs147 hu ?_
                        refine h_cons ?_
                        refine h_c ?_
                        refine h_cons ?_
                        refine h_c ?_
                        refine h_nil ?_
                        refine ⟨B119, u151, x149, 0, 255, w, rfl, r152, (P.bind).mono (fun x153 P => ?_) (fun _ z => z)⟩
                        refine fun v157 B154 H155 s156 r158 => ?_
                        replace r152 := r152.mono s156.ex
                        replace st := st.go s156 go0
                        replace w := s156.ok
                        cases r158
                        exact P.ok _ _ _ st (Rep.bl _)
                      · replace P := P.iteF c1
                        exact P.ok _ _ _ st (Rep.bl _)
                    · replace P := P.iteF c1
                      refine h_next ?_
                      refine h_nx ?_
                      refine h_ret ?_
                      refine h_and ?_
                      refine h_op ?_
                      refine h_cb ?_
                      refine h_cons ?_
                      refine h_var rfl ?_
                      refine h_nil ?_
                      obtain ⟨l159, hl160, P⟩ := P.asT
                      have rc161 := (r_thing_here.mono st.ex)
                      rw [hl160] at rc161
                      obtain ⟨p162, xs163, hv, hs164, hr165⟩ := Rep.st w rc161
                      cases hv
                      refine h_lenTl hs164 hr165 ?_
                      refine h_c ?_
                      refine h_eqI ?_
                      refine h_bl ?_
                      refine h_ite (fun c1 => ?_) (fun c1 => ?_)
                      · replace P := P.iteT c1
                        refine h_and ?_
                        refine h_call ?_
                        refine h_cons ?_
                        refine h_op ?_
                        refine h_var rfl ?_
                        refine h_c ?_
                        obtain ⟨l166, hl167, P⟩ := P.asT
                        have rc168 := (r_thing_here.mono st.ex)
                        rw [hl167] at rc168
                        obtain ⟨p169, xs170, hv, hs171, hr172⟩ := Rep.st w rc168
                        cases hv
                        obtain ⟨x173, hx174, P⟩ := P.ix
                        obtain ⟨u175, hu, r176⟩ := RepL.atE hr172 hx174
                        refine h_ixT hs171 hu ?_
                        refine h_cons ?_
                        refine h_c ?_
                        refine h_cons ?_
                        refine h_c ?_
                        refine h_nil ?_
                        refine ⟨B119, u175, x173, 1, 200, w, rfl, r176, (P.bind).mono (fun x177 P => ?_) (fun _ z => z)⟩
                        refine fun v181 B178 H179 s180 r182 => ?_
                        replace r176 := r176.mono s180.ex
                        replace st := st.go s180 go0
                        replace w := s180.ok
                        cases r182
                        refine h_bl ?_
                        refine h_ite (fun c1 => ?_) (fun c1 => ?_)
                        · replace P := P.iteT c1
                          refine h_call ?_
                          refine h_cons ?_
                          refine h_op ?_
                          refine h_var rfl ?_
                          refine h_c ?_
                          obtain ⟨l183, hl184, P⟩ := P.asT
                          have rc185 := (r_thing_here.mono st.ex)
                          rw [hl184] at rc185
                          obtain ⟨p186, xs187, hv, hs188, hr189⟩ := Rep.st w rc185
                          cases hv
                          obtain ⟨x190, hx191, P⟩ := P.ix
                          obtain ⟨u192, hu, r193⟩ := RepL.atE hr189 hx191
                          refine h_ixT hs188 hu ?_
                          refine h_cons ?_
                          refine h_c ?_
                          refine h_cons ?_
                          refine h_c ?_
                          refine h_nil ?_
                          refine ⟨B178, u192, x190, 0, 15, w, rfl, r193, (P.bind).mono (fun x194 P => ?_) (fun _ z => z)⟩
                          refine fun v198 B195 H196 s197 r199 => ?_
                          replace r193 := r193.mono s197.ex
                          replace st := st.go s197 go0
                          replace w := s197.ok
                          cases r199
                          exact P.ok _ _ _ st (Rep.bl _)
                        · replace P := P.iteF c1
                          exact P.ok _ _ _ st (Rep.bl _)
                      · replace P := P.iteF c1
                        exact P.ok _ _ _ st (Rep.bl _)
theorem ok__law_is_leaf {f : Addr} {fd : FuncData}  (F : Fun K "_law_is_leaf" "_law_is_leaf" s__law_is_leaf f fd) {f__law_within : Addr} {d__law_within : FuncData} (g__law_within : mg "_law_within" = some (.ref f__law_within)) (k__law_within : PySem.W.keepIn K (.ref f__law_within) = true) (b__law_within : L2.Binds K d__law_within ["_law_thing_here", "_law_low", "_law_high"] []) (G__law_within : FnOk Pr wo K mg base CX0 2 f__law_within d__law_within ["_law_thing_here", "_law_low", "_law_high"] (sp__law_within K)) {f__law_is_rule : Addr} {d__law_is_rule : FuncData} (g__law_is_rule : mg "_law_is_rule" = some (.ref f__law_is_rule)) (k__law_is_rule : PySem.W.keepIn K (.ref f__law_is_rule) = true) (b__law_is_rule : L2.Binds K d__law_is_rule ["_law_thing_here"] []) (G__law_is_rule : FnOk Pr wo K mg base CX0 3 f__law_is_rule d__law_is_rule ["_law_thing_here"] (sp__law_is_rule K)) (bI_all : mg "all" = none) (bI_isinstance : mg "isinstance" = none) (bI_tuple : mg "tuple" = none) (bI_len : mg "len" = none) (bI_str : mg "str" = none) : FnOk Pr wo K mg base CX0 4 f fd ["_law_thing_here"] (sp__law_is_leaf K) := by
  refine F.ok sc__law_is_leaf (fun vs H Q E h => ?_) (fun cdv A outer s H0 vs Q E hr h => ?_)
  · obtain ⟨_, _, _, _, rfl, _⟩ := h; rfl
  · obtain ⟨B0, v_thing_here, a_thing_here, w, rfl, r_thing_here, P⟩ := h
    have w0 := w
    have hu := hu_of hr
    have hu64 := hu64_of hr
    have hr2 : Room 2 _ := hr.mono (by decide)
    have hr3 : Room 3 _ := hr.mono (by decide)
    refine ⟨_, (pss_cons (ps_if (PW.pt (pw_or (pt_not (pt_val (pe_callB (r := rIsi K) call_isi (by rfl) bI_isinstance PyProof.Rows.boot_isinstance (pa_cons (pv 0) (pa_cons (pe_bltn (v := .ty "tuple") (by rfl) bI_tuple Y.boot_tuple rfl) pa_nil))))) (pw_or (pt_cmpR op_ne (pe_callB (r := rLenY K) cr_len (by rfl) bI_len PySem.boot_len (pa_cons (pv 0) pa_nil)) pe_int (nomark _)) (pw_or1 (pt_not (pt_val (pe_callB (r := rIsi K) call_isi (by rfl) bI_isinstance PyProof.Rows.boot_isinstance (pa_cons (pe_ix (r := rIxT K) ix_tup (pv 0) pe_int (fun _ _ => rfl)) (pa_cons (pe_bltn (v := .ty "str") (by rfl) bI_str Y.boot_str rfl) pa_nil))))))))) (pss_one (ps_ret pe_bl)) pss_nil)
      (pss_cons (ps_if (PW.pt (pw_or (pt_not (pt_val (pe_call G__law_within hr2 rfl g__law_within k__law_within b__law_within .nil pass0 (pa_cons (pe_ix (r := rIxT K) ix_tup (pv 0) pe_int (fun _ _ => rfl)) (pa_cons pe_int (pa_cons (pe_op op_pow pe_int pe_int) pa_nil)))))) (pw_or1 (pt_not (pt_val (pe_call G__law_within hr2 rfl g__law_within k__law_within b__law_within .nil pass0 (pa_cons (pe_ix (r := rIxT K) ix_tup (pv 0) pe_int (fun _ _ => rfl)) (pa_cons pe_int (pa_cons (pe_op op_pow pe_int pe_int) pa_nil))))))))) (pss_one (ps_ret pe_bl)) pss_nil)
      (pss_cons (ps_if (pt_cmpR (r := rEqD K) (op_eqD hu64) (pe_ix (r := rIxT K) ix_tup (pv 0) pe_int (fun _ _ => rfl)) pe_str (nomark _)) (pss_one (ps_ret (pe_call G__law_within hr2 rfl g__law_within k__law_within b__law_within .nil pass0 (pa_cons (pe_ix (r := rIxT K) ix_tup (pv 0) pe_int (fun _ _ => rfl)) (pa_cons pe_int (pa_cons pe_int pa_nil)))))) pss_nil)
      (pss_cons (ps_if (PW.pt (pw_or (pt_not (pt_val (pe_callB (r := rIsi K) call_isi (by rfl) bI_isinstance PyProof.Rows.boot_isinstance (pa_cons (pe_ix (r := rIxT K) ix_tup (pv 0) pe_int (fun _ _ => rfl)) (pa_cons (pe_bltn (v := .ty "tuple") (by rfl) bI_tuple Y.boot_tuple rfl) pa_nil))))) (pw_or1 (pt_not (pt_chain op_le op_le pe_int (pe_callB (r := rLenY K) cr_len (by rfl) bI_len PySem.boot_len (pa_cons (pe_ix (r := rIxT K) ix_tup (pv 0) pe_int (fun _ _ => rfl)) pa_nil)) pe_int))))) (pss_one (ps_ret pe_bl)) pss_nil)
      (pss_cons (ps_if (pt_cmpR (r := rEqD K) (op_eqD hu64) (pe_ix (r := rIxT K) ix_tup (pv 0) pe_int (fun _ _ => rfl)) pe_str (nomark _)) (pss_one (ps_ret (pe_callB (r := rAll K) (cr_all rfl) (by rfl) bI_all PyProof.Rows.boot_all (pa_cons (pe_lc (own := [("_law_one", 1)]) rfl sc__law_is_leaf.nd (pi_tup (pe_ix (r := rIxT K) ix_tup (pv 0) pe_int (fun _ _ => rfl))) (blkOk_by (N := ["_law_thing_here", "_law_one"]) (sc := defScope s__law_is_leaf) (by decide +kernel)) (fun _ _ _ _ _ => (pg_name (i := 1) sc__law_is_leaf.nd rfl (by first | exact Or.inl rfl | exact Or.inr rfl))) (fun _ _ _ _ _ => pts_nil) (fun _ _ _ _ _ => (pe_call G__law_within hr2 rfl g__law_within k__law_within b__law_within .nil pass0 (pa_cons (pv 1) (pa_cons pe_int (pa_cons pe_int pa_nil)))))) pa_nil)))) pss_nil)
      (pss_one (ps_ret (pe_and (pe_cmpR (r := rEqD K) (op_eqD hu64) (pe_ix (r := rIxT K) ix_tup (pv 0) pe_int (fun _ _ => rfl)) pe_str (nomark _)) (pe_one (pe_callB (r := rAll K) (cr_all rfl) (by rfl) bI_all PyProof.Rows.boot_all (pa_cons (pe_lc (own := [("_law_one", 1)]) rfl sc__law_is_leaf.nd (pi_tup (pe_ix (r := rIxT K) ix_tup (pv 0) pe_int (fun _ _ => rfl))) (blkOk_by (N := ["_law_thing_here", "_law_one"]) (sc := defScope s__law_is_leaf) (by decide +kernel)) (fun _ _ _ _ _ => (pg_name (i := 1) sc__law_is_leaf.nd rfl (by first | exact Or.inl rfl | exact Or.inr rfl))) (fun _ _ _ _ _ => pts_nil) (fun _ _ _ _ _ => (pe_call G__law_is_rule hr3 rfl g__law_is_rule k__law_is_rule b__law_is_rule .nil pass0 (pa_cons (pv 1) pa_nil)))) pa_nil))))))))))), ?_⟩
    unfold l_is_leaf at P
    have st := Stp.refl (W := []) w
    refine h_seq <| h_if ?_
    refine h_tor ?_
    refine h_tnot ?_
    refine h_tB ?_
    refine h_cb ?_
    refine h_cons ?_
    refine h_var rfl ?_
    refine h_cons ?_
    refine h_c ?_
    refine h_nil ?_
    refine isi (t := "tuple") w (r_thing_here.mono st.ex) ?_
    refine h_bl ?_
    refine h_iteN (fun c1 => ?_) (fun c1 => ?_)
    · replace P := P.iteF c1
      refine h_iteT ?_
      refine h_ret ?_
      refine h_c ?_
      exact P.ok _ _ _ st (Rep.bl _)
    · replace P := P.iteT c1
      refine h_tor ?_
      refine h_test ?_
      refine h_op ?_
      refine h_cb ?_
      refine h_cons ?_
      refine h_var rfl ?_
      refine h_nil ?_
      obtain ⟨l1, hl2, P⟩ := P.asT
      have rc3 := (r_thing_here.mono st.ex)
      rw [hl2] at rc3
      obtain ⟨p4, xs5, rfl, hs6, hr7⟩ := Rep.st w rc3
      refine h_lenTl hs6 hr7 ?_
      refine h_c ?_
      refine h_neI ?_
      refine h_bl ?_
      refine h_ite (fun c1 => ?_) (fun c1 => ?_)
      · replace P := P.iteT c1
        refine h_iteT ?_
        refine h_ret ?_
        refine h_c ?_
        exact P.ok _ _ _ st (Rep.bl _)
      · replace P := P.iteF c1
        refine h_tnot ?_
        refine h_tB ?_
        refine h_cb ?_
        refine h_cons ?_
        refine h_op ?_
        refine h_var rfl ?_
        refine h_c ?_
        obtain ⟨l8, hl9, P⟩ := P.asT
        have rc10 := (r_thing_here.mono st.ex)
        rw [hl9] at rc10
        obtain ⟨p11, xs12, hv, hs13, hr14⟩ := Rep.st w rc10
        cases hv
        obtain ⟨x15, hx16, P⟩ := P.ix
        obtain ⟨u17, hu, r18⟩ := RepL.atE hr14 hx16
        refine h_ixT hs13 hu ?_
        refine h_cons ?_
        refine h_c ?_
        refine h_nil ?_
        refine isi (t := "str") w r18 ?_
        refine h_bl ?_
        refine h_iteN (fun c1 => ?_) (fun c1 => ?_)
        · replace P := P.iteF c1
          refine h_ret ?_
          refine h_c ?_
          exact P.ok _ _ _ st (Rep.bl _)
        · replace P := P.iteT c1
          refine h_next ?_
          refine h_nx ?_
          refine h_seq <| h_if ?_
          refine h_tor ?_
          refine h_tnot ?_
          refine h_tB ?_
          refine h_call ?_
          refine h_cons ?_
          refine h_op ?_
          refine h_var rfl ?_
          refine h_c ?_
          obtain ⟨l19, hl20, P⟩ := P.asT
          have rc21 := (r_thing_here.mono st.ex)
          rw [hl20] at rc21
          obtain ⟨p22, xs23, hv, hs24, hr25⟩ := Rep.st w rc21
          cases hv
          obtain ⟨x26, hx27, P⟩ := P.ix
          obtain ⟨u28, hu, r29⟩ := RepL.atE hr25 hx27
          refine h_ixT hs24 hu ?_
          refine h_cons ?_
          refine h_c ?_
          refine h_cons ?_
          refine h_op (h_c (h_c (h_pow (k := 1000000000) (by decide +kernel) (by decide +kernel) ?_)))
          refine h_nil ?_
          refine ⟨B0, u28, x26, 0, 1000000000, w, rfl, r29, (P.bind).mono (fun x30 P => ?_) (fun _ z => z)⟩
          refine fun v34 B31 H32 s33 r35 => ?_
          replace r29 := r29.mono s33.ex
          replace st := st.go s33 go0
          replace w := s33.ok
          cases r35
          refine h_bl ?_
          refine h_iteN (fun c1 => ?_) (fun c1 => ?_)
          · replace P := P.iteF c1
            refine h_iteT ?_
            refine h_ret ?_
            refine h_c ?_
            exact P.ok _ _ _ st (Rep.bl _)
          · replace P := P.iteT c1
            refine h_tnot ?_
            refine h_tB ?_
            refine h_call ?_
            refine h_cons ?_
            refine h_op ?_
            refine h_var rfl ?_
            refine h_c ?_
            obtain ⟨l36, hl37, P⟩ := P.asT
            have rc38 := (r_thing_here.mono st.ex)
            rw [hl37] at rc38
            obtain ⟨p39, xs40, hv, hs41, hr42⟩ := Rep.st w rc38
            cases hv
            obtain ⟨x43, hx44, P⟩ := P.ix
            obtain ⟨u45, hu, r46⟩ := RepL.atE hr42 hx44
            refine h_ixT hs41 hu ?_
            refine h_cons ?_
            refine h_c ?_
            refine h_cons ?_
            refine h_op (h_c (h_c (h_pow (k := 1000000000) (by decide +kernel) (by decide +kernel) ?_)))
            refine h_nil ?_
            refine ⟨B31, u45, x43, 1, 1000000000, w, rfl, r46, (P.bind).mono (fun x47 P => ?_) (fun _ z => z)⟩
            refine fun v51 B48 H49 s50 r52 => ?_
            replace r46 := r46.mono s50.ex
            replace st := st.go s50 go0
            replace w := s50.ok
            cases r52
            refine h_bl ?_
            refine h_iteN (fun c1 => ?_) (fun c1 => ?_)
            · replace P := P.iteF c1
              refine h_ret ?_
              refine h_c ?_
              exact P.ok _ _ _ st (Rep.bl _)
            · replace P := P.iteT c1
              refine h_next ?_
              refine h_nx ?_
              refine h_seq <| h_if ?_
              refine h_test ?_
              refine h_op ?_
              refine h_op ?_
              refine h_var rfl ?_
              refine h_c ?_
              obtain ⟨l53, hl54, P⟩ := P.asT
              have rc55 := (r_thing_here.mono st.ex)
              rw [hl54] at rc55
              obtain ⟨p56, xs57, hv, hs58, hr59⟩ := Rep.st w rc55
              cases hv
              obtain ⟨x60, hx61, P⟩ := P.ix
              obtain ⟨u62, hu, r63⟩ := RepL.atE hr59 hx61
              refine h_ixT hs58 hu ?_
              refine h_c ?_
              obtain ⟨gd, P⟩ := P.guard
              refine h_eqD (d := x60) (e := (enc ("still" : Str))) w r63 (Rep.str _) gd ?_
              refine h_bl ?_
              refine h_ite (fun c1 => ?_) (fun c1 => ?_)
              · replace P := P.iteT c1
                refine h_ret ?_
                refine h_call ?_
                refine h_cons ?_
                refine h_op ?_
                refine h_var rfl ?_
                refine h_c ?_
                obtain ⟨l64, hl65, P⟩ := P.asT
                have rc66 := (r_thing_here.mono st.ex)
                rw [hl65] at rc66
                obtain ⟨p67, xs68, hv, hs69, hr70⟩ := Rep.st w rc66
                cases hv
                obtain ⟨x71, hx72, P⟩ := P.ix
                obtain ⟨u73, hu, r74⟩ := RepL.atE hr70 hx72
                refine h_ixT hs69 hu ?_
                refine h_cons ?_
                refine h_c ?_
                refine h_cons ?_
                refine h_c ?_
                refine h_nil ?_
                refine ⟨B48, u73, x71, 1, 200, w, rfl, r74, (P.bind).mono (fun x75 P => ?_) (fun _ z => z)⟩
                refine fun v79 B76 H77 s78 r80 => ?_
                replace r74 := r74.mono s78.ex
                replace st := st.go s78 go0
                replace w := s78.ok
                cases r80
                exact P.ok _ _ _ st (Rep.bl _)
              · replace P := P.iteF c1
                refine h_next ?_
                refine h_nx ?_
                refine h_seq <| h_if ?_
                refine h_tor ?_
                refine h_tnot ?_
                refine h_tB ?_
                refine h_cb ?_
                refine h_cons ?_
                refine h_op ?_
                refine h_var rfl ?_
                refine h_c ?_
                obtain ⟨l81, hl82, P⟩ := P.asT
                have rc83 := (r_thing_here.mono st.ex)
                rw [hl82] at rc83
                obtain ⟨p84, xs85, hv, hs86, hr87⟩ := Rep.st w rc83
                cases hv
                obtain ⟨x88, hx89, P⟩ := P.ix
                obtain ⟨u90, hu, r91⟩ := RepL.atE hr87 hx89
                refine h_ixT hs86 hu ?_
                refine h_cons ?_
                refine h_c ?_
                refine h_nil ?_
                refine isi (t := "tuple") w r91 ?_
                refine h_bl ?_
                refine h_iteN (fun c1 => ?_) (fun c1 => ?_)
                · replace P := P.iteF c1
                  refine h_iteT ?_
                  refine h_ret ?_
                  refine h_c ?_
                  exact P.ok _ _ _ st (Rep.bl _)
                · replace P := P.iteT c1
                  refine h_tnot ?_
                  refine h_test ?_
                  refine h_chain ?_
                  refine h_c ?_
                  refine h_cb ?_
                  refine h_cons ?_
                  refine h_op ?_
                  refine h_var rfl ?_
                  refine h_c ?_
                  obtain ⟨l92, hl93, P⟩ := P.asT
                  have rc94 := (r_thing_here.mono st.ex)
                  rw [hl93] at rc94
                  obtain ⟨p95, xs96, hv, hs97, hr98⟩ := Rep.st w rc94
                  cases hv
                  obtain ⟨x99, hx100, P⟩ := P.ix
                  obtain ⟨u101, hu, r102⟩ := RepL.atE hr98 hx100
                  refine h_ixT hs97 hu ?_
                  refine h_nil ?_
                  obtain ⟨l103, hl104, P⟩ := P.asT
                  have rc105 := r102
                  rw [hl104] at rc105
                  obtain ⟨p106, xs107, rfl, hs108, hr109⟩ := Rep.st w rc105
                  refine h_lenTl hs108 hr109 ?_
                  refine h_I0 ?_
                  refine h_bl ?_
                  refine h_ite (fun c1 => ?_) (fun c1 => ?_)
                  · replace P := P.iteT c1
                    refine h_c ?_
                    refine h_I0 ?_
                    refine h_bl ?_
                    refine h_iteN (fun c1 => ?_) (fun c1 => ?_)
                    · replace P := P.iteF c1
                      refine h_ret ?_
                      refine h_c ?_
                      exact P.ok _ _ _ st (Rep.bl _)
                    · replace P := P.iteT c1
                      refine h_next ?_
                      refine h_nx ?_
                      refine h_seq <| h_if ?_
                      refine h_test ?_
                      refine h_op ?_
                      refine h_op ?_
                      refine h_var rfl ?_
                      refine h_c ?_
                      obtain ⟨l110, hl111, P⟩ := P.asT
                      have rc112 := (r_thing_here.mono st.ex)
                      rw [hl111] at rc112
                      obtain ⟨p113, xs114, hv, hs115, hr116⟩ := Rep.st w rc112
                      cases hv
                      obtain ⟨x117, hx118, P⟩ := P.ix
                      obtain ⟨u119, hu, r120⟩ := RepL.atE hr116 hx118
                      refine h_ixT hs115 hu ?_
                      refine h_c ?_
                      obtain ⟨gd, P⟩ := P.guard
                      refine h_eqD (d := x117) (e := (enc ("full" : Str))) w r120 (Rep.str _) gd ?_
                      refine h_bl ?_
                      refine h_ite (fun c1 => ?_) (fun c1 => ?_)
                      · replace P := P.iteT c1
                        refine h_ret ?_
                        refine h_cb ?_
                        refine h_cons ?_
                        refine h_lcUE ?_
                        refine h_op ?_
                        refine h_var rfl ?_
                        refine h_c ?_
                        obtain ⟨l121, hl122, P⟩ := P.asT
                        have rc123 := (r_thing_here.mono st.ex)
                        rw [hl122] at rc123
                        obtain ⟨p124, xs125, hv, hs126, hr127⟩ := Rep.st w rc123
                        cases hv
                        obtain ⟨x128, hx129, P⟩ := P.ix
                        obtain ⟨u130, hu, r131⟩ := RepL.atE hr127 hx129
                        refine h_ixT hs126 hu ?_
                        obtain ⟨l132, hl133, P⟩ := P.asT
                        have rc134 := r131
                        rw [hl133] at rc134
                        obtain ⟨p135, xs136, rfl, hb137, hr138⟩ := Rep.stB rc134
                        refine h_lcU P (w.t hb137) hr138 (fun Dl (acc : List Bool) (a : Unit) H' => ∃ B', Stp [] B48 H49 B' H' ∧ H49 Dl = none ∧ Mu K B' H' Dl (acc.map enc)) (fun Dl hD => ⟨_, Stp.newM w hD, hD, Mu.new w hD .nil⟩) (fun _ _ _ _ j => ?_) ?_ ?_
                        · obtain ⟨B148, s149, hD150, m151⟩ := j
                          exact s149.ok.t (s149.ex.t hb137)
                        · rintro Dl139 N140 T141 x142 v143 acc145 a146 H147 ⟨B148, s149, hD150, m151⟩ r144 hz152 kk153 kn154 P
                          have wj156 := w
                          have sj155 := s149
                          have n157 := st.nn hD150
                          replace st := st.go s149 go0
                          replace w := s149.ok
                          replace r144 := r144.mono s149.ex
                          refine h_gname ?_
                          refine h_lcT rfl ?_
                          refine h_call ?_
                          refine h_cons ?_
                          refine h_var rfl ?_
                          refine h_cons ?_
                          refine h_c ?_
                          refine h_cons ?_
                          refine h_c ?_
                          refine h_nil ?_
                          refine ⟨B148, v143, x142, 0, 255, w, rfl, r144, (P.bind).mono (fun x158 P => ?_) (fun _ z => z)⟩
                          refine fun v162 B159 H160 s161 r163 => ?_
                          replace r144 := r144.mono s161.ex
                          replace m151 := m151.step s161 nm0
                          replace st := st.go s161 go0
                          replace sj155 := sj155.go s161 go0
                          replace w := s161.ok
                          cases r163
                          refine h_app (b := x158) w m151 (Rep.bl _) hz152 (fun H164 s165 m151 => ?_)
                          replace r144 := r144.mono s165.ex
                          replace st := st.go s165 (go1 (.inr n157))
                          replace sj155 := sj155.go s165 (go1 (.inr hD150))
                          replace w := s165.ok
                          exact kk153 x158 () _ ⟨_, sj155, hD150, m151⟩ P.ok
                        · rintro Dl139 acc145 a146 H147 ⟨B148, s149, hD150, m151⟩ P
                          have n166 := st.nn hD150
                          replace st := st.go s149 go0
                          replace w := s149.ok
                          replace P := P.un2
                          obtain ⟨B171, e167, k168, g169, r170⟩ := Mu.keep m151
                          replace st := g169 _ _ _ st w0 n166
                          replace w := st.ok
                          replace r170 : Rep K B171 (.ref Dl139) (enc acc145) := r170
                          refine h_nil ?_
                          obtain ⟨p172, xs173, hv, hs174, hr175⟩ := Rep.sq w r170
                          cases hv
                          refine h_all hs174 hr175 ?_
                          exact P.ok _ _ _ st (Rep.bl _)
                      · replace P := P.iteF c1
                        refine h_next ?_
                        refine h_nx ?_
                        refine h_ret ?_
                        refine h_and ?_
                        refine h_op ?_
                        refine h_op ?_
                        refine h_var rfl ?_
                        refine h_c ?_
                        obtain ⟨l176, hl177, P⟩ := P.asT
                        have rc178 := (r_thing_here.mono st.ex)
                        rw [hl177] at rc178
                        obtain ⟨p179, xs180, hv, hs181, hr182⟩ := Rep.st w rc178
                        cases hv
                        obtain ⟨x183, hx184, P⟩ := P.ix
                        obtain ⟨u185, hu, r186⟩ := RepL.atE hr182 hx184
                        refine h_ixT hs181 hu ?_
                        refine h_c ?_
                        obtain ⟨gd, P⟩ := P.guard
                        refine h_eqD (d := x183) (e := (enc ("woven" : Str))) w r186 (Rep.str _) gd ?_
                        refine h_bl ?_
                        refine h_ite (fun c1 => ?_) (fun c1 => ?_)
                        · replace P := P.iteT c1
                          refine h_cb ?_
                          refine h_cons ?_
                          refine h_lcUE ?_
                          refine h_op ?_
                          refine h_var rfl ?_
                          refine h_c ?_
                          obtain ⟨l187, hl188, P⟩ := P.asT
                          have rc189 := (r_thing_here.mono st.ex)
                          rw [hl188] at rc189
                          obtain ⟨p190, xs191, hv, hs192, hr193⟩ := Rep.st w rc189
                          cases hv
                          obtain ⟨x194, hx195, P⟩ := P.ix
                          obtain ⟨u196, hu, r197⟩ := RepL.atE hr193 hx195
                          refine h_ixT hs192 hu ?_
                          obtain ⟨l198, hl199, P⟩ := P.asT
                          have rc200 := r197
                          rw [hl199] at rc200
                          obtain ⟨p201, xs202, rfl, hb203, hr204⟩ := Rep.stB rc200
                          refine h_lcU P (w.t hb203) hr204 (fun Dl (acc : List Bool) (a : Unit) H' => ∃ B', Stp [] B48 H49 B' H' ∧ H49 Dl = none ∧ Mu K B' H' Dl (acc.map enc)) (fun Dl hD => ⟨_, Stp.newM w hD, hD, Mu.new w hD .nil⟩) (fun _ _ _ _ j => ?_) ?_ ?_
                          · obtain ⟨B214, s215, hD216, m217⟩ := j
                            exact s215.ok.t (s215.ex.t hb203)
                          · rintro Dl205 N206 T207 x208 v209 acc211 a212 H213 ⟨B214, s215, hD216, m217⟩ r210 hz218 kk219 kn220 P
                            have wj222 := w
                            have sj221 := s215
                            have n223 := st.nn hD216
                            replace st := st.go s215 go0
                            replace w := s215.ok
                            replace r210 := r210.mono s215.ex
                            refine h_gname ?_
                            refine h_lcT rfl ?_
                            refine h_call ?_
                            refine h_cons ?_
                            refine h_var rfl ?_
                            refine h_nil ?_
                            refine ⟨B214, v209, x208, w, rfl, r210, (P.bind).mono (fun x224 P => ?_) (fun _ z => z)⟩
                            refine fun v228 B225 H226 s227 r229 => ?_
                            replace r210 := r210.mono s227.ex
                            replace m217 := m217.step s227 nm0
                            replace st := st.go s227 go0
                            replace sj221 := sj221.go s227 go0
                            replace w := s227.ok
                            cases r229
                            refine h_app (b := x224) w m217 (Rep.bl _) hz218 (fun H230 s231 m217 => ?_)
                            replace r210 := r210.mono s231.ex
                            replace st := st.go s231 (go1 (.inr n223))
                            replace sj221 := sj221.go s231 (go1 (.inr hD216))
                            replace w := s231.ok
                            exact kk219 x224 () _ ⟨_, sj221, hD216, m217⟩ P.ok
                          · rintro Dl205 acc211 a212 H213 ⟨B214, s215, hD216, m217⟩ P
                            have n232 := st.nn hD216
                            replace st := st.go s215 go0
                            replace w := s215.ok
                            replace P := P.un2
                            obtain ⟨B237, e233, k234, g235, r236⟩ := Mu.keep m217
                            replace st := g235 _ _ _ st w0 n232
                            replace w := st.ok
                            replace r236 : Rep K B237 (.ref Dl205) (enc acc211) := r236
                            refine h_nil ?_
                            obtain ⟨p238, xs239, hv, hs240, hr241⟩ := Rep.sq w r236
                            cases hv
                            refine h_all hs240 hr241 ?_
                            exact P.ok _ _ _ st (Rep.bl _)
                        · replace P := P.iteF c1
                          exact P.ok _ _ _ st (Rep.bl _)
                  · replace P := P.iteF c1
                    refine h_bl ?_
                    refine h_iteNF ?_
                    refine h_ret ?_
                    refine h_c ?_
                    exact P.ok _ _ _ st (Rep.bl _)
theorem ok_Full__told {f : Addr} {fd : FuncData}  (F : Fun K "told" "Full.told" s_Full__told f fd) {C_Full : Addr} (T_Full : KI K mg "Full" C_Full) (n_Full_begin : NoAttr K C_Full "begin") (n_Full_span : NoAttr K C_Full "span") (n_Full_worths : NoAttr K C_Full "worths") : FnOk Pr wo K mg base CX0 1 f fd ["self"] (sp_Full__told K) := by
  refine F.ok sc_Full__told (fun vs H Q E h => ?_) (fun cdv A outer s H0 vs Q E hr h => ?_)
  · obtain ⟨_, _, _, _, _, _, rfl, _⟩ := h; rfl
  · obtain ⟨B0, v_self, s_begin, s_span, s_worths, w, rfl, r_self, P⟩ := h
    have w0 := w
    have hu := hu_of hr
    have hu64 := hu64_of hr
    refine ⟨_, (pss_one (ps_ret (pe_tup (pa_cons pe_str (pa_cons (pe_fld (pv 0) rfl) (pa_cons (pe_fld (pv 0) rfl) (pa_cons (pe_fld (pv 0) rfl) pa_nil))))))), ?_⟩
    unfold m_Full__told at P
    have st := Stp.refl (W := []) w
    refine h_ret ?_
    refine h_tup ?_
    refine h_cons ?_
    refine h_c ?_
    refine h_cons ?_
    refine h_fldE ?_
    refine h_var rfl ?_
    refine h_fld w (r_self.mono st.ex) T_Full.toKC n_Full_begin (d := enc (s_begin : Int)) lk0 (fun u1 r2 => ?_)
    cases r2
    refine h_cons ?_
    refine h_fldE ?_
    refine h_var rfl ?_
    refine h_fld w (r_self.mono st.ex) T_Full.toKC n_Full_span (d := enc (s_span : Int)) (lkS (by decide +kernel) lk0) (fun u3 r4 => ?_)
    cases r4
    refine h_cons ?_
    refine h_fldE ?_
    refine h_var rfl ?_
    refine h_fld w (r_self.mono st.ex) T_Full.toKC n_Full_worths (d := enc (s_worths : D)) (lkS (by decide +kernel) (lkS (by decide +kernel) lk0)) (fun u5 r6 => ?_)
    refine h_nil ?_
    refine h_newT w (K := K) (.cons (Rep.str _) (.cons (Rep.int _) (.cons (Rep.int _) (.cons r6 .nil)))) (fun p7 B8 H9 s10 r11 => ?_) (by show 4 ≤ sizeLine; decide)
    replace st := st.go s10 go0
    replace w := s10.ok
    replace r11 : Rep K B8 (.ref p7) (enc (⟨("full" : Str), s_begin, s_span, s_worths⟩ : (Tp4 Str Int Int D))) := r11
    exact P.ok _ _ _ st r11
theorem ok_Still__told {f : Addr} {fd : FuncData}  (F : Fun K "told" "Still.told" s_Still__told f fd) {C_Still : Addr} (T_Still : KI K mg "Still" C_Still) (n_Still_begin : NoAttr K C_Still "begin") (n_Still_span : NoAttr K C_Still "span") (n_Still_back : NoAttr K C_Still "back") : FnOk Pr wo K mg base CX0 1 f fd ["self"] (sp_Still__told K) := by
  refine F.ok sc_Still__told (fun vs H Q E h => ?_) (fun cdv A outer s H0 vs Q E hr h => ?_)
  · obtain ⟨_, _, _, _, _, _, rfl, _⟩ := h; rfl
  · obtain ⟨B0, v_self, s_begin, s_span, s_back, w, rfl, r_self, P⟩ := h
    have w0 := w
    have hu := hu_of hr
    have hu64 := hu64_of hr
    refine ⟨_, (pss_one (ps_ret (pe_tup (pa_cons pe_str (pa_cons (pe_fld (pv 0) rfl) (pa_cons (pe_fld (pv 0) rfl) (pa_cons (pe_fld (pv 0) rfl) pa_nil))))))), ?_⟩
    unfold m_Still__told at P
    have st := Stp.refl (W := []) w
    refine h_ret ?_
    refine h_tup ?_
    refine h_cons ?_
    refine h_c ?_
    refine h_cons ?_
    refine h_fldE ?_
    refine h_var rfl ?_
    refine h_fld w (r_self.mono st.ex) T_Still.toKC n_Still_begin (d := enc (s_begin : Int)) lk0 (fun u1 r2 => ?_)
    cases r2
    refine h_cons ?_
    refine h_fldE ?_
    refine h_var rfl ?_
    refine h_fld w (r_self.mono st.ex) T_Still.toKC n_Still_span (d := enc (s_span : Int)) (lkS (by decide +kernel) lk0) (fun u3 r4 => ?_)
    cases r4
    refine h_cons ?_
    refine h_fldE ?_
    refine h_var rfl ?_
    refine h_fld w (r_self.mono st.ex) T_Still.toKC n_Still_back (d := enc (s_back : Int)) (lkS (by decide +kernel) (lkS (by decide +kernel) lk0)) (fun u5 r6 => ?_)
    cases r6
    refine h_nil ?_
    refine h_newT w (K := K) (.cons (Rep.str _) (.cons (Rep.int _) (.cons (Rep.int _) (.cons (Rep.int _) .nil)))) (fun p7 B8 H9 s10 r11 => ?_) (by show 4 ≤ sizeLine; decide)
    replace st := st.go s10 go0
    replace w := s10.ok
    replace r11 : Rep K B8 (.ref p7) (enc (⟨("still" : Str), s_begin, s_span, s_back⟩ : (Tp4 Str Int Int Int))) := r11
    exact P.ok _ _ _ st r11
theorem ok_Woven__told {f : Addr} {fd : FuncData}  (F : Fun K "told" "Woven.told" s_Woven__told f fd) {C_Woven : Addr} (T_Woven : KI K mg "Woven" C_Woven) (n_Woven_begin : NoAttr K C_Woven "begin") (n_Woven_span : NoAttr K C_Woven "span") (n_Woven_rules : NoAttr K C_Woven "rules") : FnOk Pr wo K mg base CX0 1 f fd ["self"] (sp_Woven__told K) := by
  refine F.ok sc_Woven__told (fun vs H Q E h => ?_) (fun cdv A outer s H0 vs Q E hr h => ?_)
  · obtain ⟨_, _, _, _, _, _, rfl, _⟩ := h; rfl
  · obtain ⟨B0, v_self, s_begin, s_span, s_rules, w, rfl, r_self, P⟩ := h
    have w0 := w
    have hu := hu_of hr
    have hu64 := hu64_of hr
    refine ⟨_, (pss_one (ps_ret (pe_tup (pa_cons pe_str (pa_cons (pe_fld (pv 0) rfl) (pa_cons (pe_fld (pv 0) rfl) (pa_cons (pe_fld (pv 0) rfl) pa_nil))))))), ?_⟩
    unfold m_Woven__told at P
    have st := Stp.refl (W := []) w
    refine h_ret ?_
    refine h_tup ?_
    refine h_cons ?_
    refine h_c ?_
    refine h_cons ?_
    refine h_fldE ?_
    refine h_var rfl ?_
    refine h_fld w (r_self.mono st.ex) T_Woven.toKC n_Woven_begin (d := enc (s_begin : Int)) lk0 (fun u1 r2 => ?_)
    cases r2
    refine h_cons ?_
    refine h_fldE ?_
    refine h_var rfl ?_
    refine h_fld w (r_self.mono st.ex) T_Woven.toKC n_Woven_span (d := enc (s_span : Int)) (lkS (by decide +kernel) lk0) (fun u3 r4 => ?_)
    cases r4
    refine h_cons ?_
    refine h_fldE ?_
    refine h_var rfl ?_
    refine h_fld w (r_self.mono st.ex) T_Woven.toKC n_Woven_rules (d := enc (s_rules : D)) (lkS (by decide +kernel) (lkS (by decide +kernel) lk0)) (fun u5 r6 => ?_)
    refine h_nil ?_
    refine h_newT w (K := K) (.cons (Rep.str _) (.cons (Rep.int _) (.cons (Rep.int _) (.cons r6 .nil)))) (fun p7 B8 H9 s10 r11 => ?_) (by show 4 ≤ sizeLine; decide)
    replace st := st.go s10 go0
    replace w := s10.ok
    replace r11 : Rep K B8 (.ref p7) (enc (⟨("woven" : Str), s_begin, s_span, s_rules⟩ : (Tp4 Str Int Int D))) := r11
    exact P.ok _ _ _ st r11
theorem ok__law_asked {f : Addr} {fd : FuncData}  (F : Fun K "_law_asked" "_law_asked" s__law_asked f fd) {C_ScrollError : Addr} (T_ScrollError : ExcR K mg "ScrollError" C_ScrollError) {C_NoLeaf : Addr} (T_NoLeaf : ExcR K mg "NoLeaf" C_NoLeaf) {C_NoRule : Addr} (T_NoRule : ExcR K mg "NoRule" C_NoRule) {C_NoCell : Addr} (T_NoCell : ExcR K mg "NoCell" C_NoCell) {C_NoNumber : Addr} (T_NoNumber : ExcR K mg "NoNumber" C_NoNumber) {C_NoFilm : Addr} (T_NoFilm : ExcT K mg "NoFilm" C_NoFilm) (p_NoLeaf_NoCell : PySem.W.subIn K (.ref C_NoLeaf) (.ref C_NoCell) = some false) (p_NoLeaf_NoFilm : PySem.W.subIn K (.ref C_NoLeaf) (.ref C_NoFilm) = some false) (p_NoLeaf_NoLeaf : PySem.W.subIn K (.ref C_NoLeaf) (.ref C_NoLeaf) = some true) (p_NoLeaf_NoNumber : PySem.W.subIn K (.ref C_NoLeaf) (.ref C_NoNumber) = some false) (p_NoLeaf_NoRule : PySem.W.subIn K (.ref C_NoLeaf) (.ref C_NoRule) = some false) (p_NoLeaf_ScrollError : PySem.W.subIn K (.ref C_NoLeaf) (.ref C_ScrollError) = some true) {C_Leaf : Addr} (T_Leaf : KI K mg "Leaf" C_Leaf) {C_Full : Addr} (T_Full : KI K mg "Full" C_Full) {C_Mixed : Addr} (T_Mixed : KI K mg "Mixed" C_Mixed) {C_Moved : Addr} (T_Moved : KI K mg "Moved" C_Moved) {C_Plain : Addr} (T_Plain : KI K mg "Plain" C_Plain) {C_Still : Addr} (T_Still : KI K mg "Still" C_Still) {C_Woven : Addr} (T_Woven : KI K mg "Woven" C_Woven) (p_Woven_Leaf : PySem.W.subIn K (.ref C_Woven) (.ref C_Leaf) = some true) (p_Still_Leaf : PySem.W.subIn K (.ref C_Still) (.ref C_Leaf) = some true) (p_Plain_Leaf : PySem.W.subIn K (.ref C_Plain) (.ref C_Leaf) = some false) (p_Moved_Leaf : PySem.W.subIn K (.ref C_Moved) (.ref C_Leaf) = some false) (p_Mixed_Leaf : PySem.W.subIn K (.ref C_Mixed) (.ref C_Leaf) = some false) (p_Full_Leaf : PySem.W.subIn K (.ref C_Full) (.ref C_Leaf) = some true) (L_Leaf__told : ∀ C sp, A_Leaf__told K mg C_Full C_Still C_Woven C sp → MAlt Pr wo K mg base CX0 1 "told" C sp) {f__law_is_leaf : Addr} {d__law_is_leaf : FuncData} (g__law_is_leaf : mg "_law_is_leaf" = some (.ref f__law_is_leaf)) (k__law_is_leaf : PySem.W.keepIn K (.ref f__law_is_leaf) = true) (b__law_is_leaf : L2.Binds K d__law_is_leaf ["_law_thing_here"] []) (G__law_is_leaf : FnOk Pr wo K mg base CX0 4 f__law_is_leaf d__law_is_leaf ["_law_thing_here"] (sp__law_is_leaf K)) {f_leaf_of : Addr} {d_leaf_of : FuncData} (g_leaf_of : mg "leaf_of" = some (.ref f_leaf_of)) (k_leaf_of : PySem.W.keepIn K (.ref f_leaf_of) = true) (b_leaf_of : L2.Binds K d_leaf_of ["told"] []) (G_leaf_of : FnOk Pr wo K mg base (L2.CX Pr wo) 6 f_leaf_of d_leaf_of ["told"] (sp_leaf_of K mg)) (bI_isinstance : mg "isinstance" = none) (bI_ValueError : mg "ValueError" = none) : FnOk Pr wo K mg base CX0 7 f fd ["_law_thing_here"] (sp__law_asked K) := by
  refine F.ok sc__law_asked (fun vs H Q E h => ?_) (fun cdv A outer s H0 vs Q E hr h => ?_)
  · obtain ⟨_, _, _, _, rfl, _⟩ := h; rfl
  · obtain ⟨B0, v_thing_here, a_thing_here, w, rfl, r_thing_here, P⟩ := h
    have w0 := w
    have hu := hu_of hr
    have hu64 := hu64_of hr
    have hr1 : Room 1 _ := hr.mono (by decide)
    have hr4 : Room 4 _ := hr.mono (by decide)
    have hr6 : Room 6 _ := hr.mono (by decide)
    refine ⟨_, (pss_cons (ps_set (i := 1) sc__law_asked.nd rfl (by first | exact Or.inl rfl | exact Or.inr rfl) pe_non)
      (pss_cons (ps_set (i := 2) sc__law_asked.nd rfl (by first | exact Or.inl rfl | exact Or.inr rfl) pe_bl)
      (pss_cons (ps_set (i := 3) sc__law_asked.nd rfl (by first | exact Or.inl rfl | exact Or.inr rfl) pe_bl)
      (pss_cons (ps_tryA (K := K) (Wout := fun _ _ _ _ => False) (i := 4) rfl rfl sc__law_asked.nd rfl rfl (T_ScrollError.names rfl (by decide)) takes0 (fun W pn xe tk _ => (pss_one (ps_set (i := 1) sc__law_asked.nd rfl (by first | exact Or.inl rfl | exact Or.inr rfl) (pe_callS G_leaf_of hr6 rfl g_leaf_of k_leaf_of b_leaf_of (fun σ => passAt tk σ) (pa_cons (pv 0) pa_nil))))) (fun a oe cls d pn hz hf => (pss_cons (ps_set (i := 2) sc__law_asked.nd rfl (by first | exact Or.inl rfl | exact Or.inr rfl) (pe_and (pe_isE (K := K) (a := a) (cls := cls) (d := d) rfl (fun Dc e1 e2 ec => by subst e1 e2; exact (pe_callB (r := rIsE K Dc a) (call_isE ec hz hf) (by rfl) bI_isinstance PyProof.Rows.boot_isinstance (pa_cons (pv 4) (pa_cons (pe_glob (v := .ref C_NoLeaf) (by rfl) T_NoLeaf.g rfl) pa_nil))))) (pe_one (pe_isE (K := K) (a := a) (cls := cls) (d := d) rfl (fun Dc e1 e2 ec => by subst e1 e2; exact (pe_callB (r := rIsE K Dc a) (call_isE ec hz hf) (by rfl) bI_isinstance PyProof.Rows.boot_isinstance (pa_cons (pv 4) (pa_cons (pe_bltn (v := .ty "ValueError") (by rfl) bI_ValueError Y.boot_ValueError rfl) pa_nil))))))))
      (pss_one (ps_set (i := 3) sc__law_asked.nd rfl (by first | exact Or.inl rfl | exact Or.inr rfl) (pe_isET (K := K) (a := a) (cls := cls) (d := d) rfl (fun Dc e1 e2 ec => by subst e1 e2; exact (pe_callB (r := rIsET K Dc a) (call_isET ec hz hf) (by rfl) bI_isinstance PyProof.Rows.boot_isinstance (pa_cons (pv 4) (pa_cons (pe_tup (pa_cons (pe_glob (v := .ref C_NoRule) (by rfl) T_NoRule.g rfl) (pa_cons (pe_glob (v := .ref C_NoCell) (by rfl) T_NoCell.g rfl) (pa_cons (pe_glob (v := .ref C_NoNumber) (by rfl) T_NoNumber.g rfl) (pa_cons (pe_glob (v := .ref C_NoFilm) (by rfl) T_NoFilm.g rfl) pa_nil))))) pa_nil))))))))))
      (pss_cons (ps_if (pt_val (pv 3)) (pss_one (ps_ret pe_bl)) pss_nil)
      (pss_cons (ps_if (pt_val (pe_call G__law_is_leaf hr4 rfl g__law_is_leaf k__law_is_leaf b__law_is_leaf .nil pass0 (pa_cons (pv 0) pa_nil))) (pss_one (ps_ret (pe_and (pe_not (pv 2)) (pe_and (pe_callB (r := rIsi K) call_isi (by rfl) bI_isinstance PyProof.Rows.boot_isinstance (pa_cons (pv 1) (pa_cons (pe_glob (v := .ref C_Leaf) (by rfl) T_Leaf.g rfl) pa_nil))) (pe_one (pe_cmpR (r := rEqD K) (op_eqD hu64) (pe_methP0 (pv 1) L_Leaf__told hr1 (atOf pass0)) (pv 0) (nomark _))))))) pss_nil)
      (pss_one (ps_ret (pv 2))))))))), ?_⟩
    unfold l_asked at P
    have st := Stp.refl (W := []) w
    refine h_set ?_
    refine h_c ?_
    refine h_set ?_
    refine h_c ?_
    refine h_set ?_
    refine h_c ?_
    refine h_seq ?_
    have wj2 := w
    have sj1 := Stp.refl (W := []) w
    refine h_tryJ P (fun (a : (Option K_Leaf) × Bool × Bool) σ' H' => ∃ (B' : Hp) (v0 : V) (o_e : Option V), Stp [] B0 H0 B' H' ∧ σ' = [some (v_thing_here), some v0, some (.bl a.2.1), some (.bl a.2.2), o_e] ∧ Rep K B' v0 (enc a.1)) (fun N3 T4 kk5 kr6 P => ?_) ?_
    · refine h_tryA ?_
      refine h_set1 ?_
      refine h_callS ?_
      refine h_cons ?_
      refine h_var rfl ?_
      refine h_nil ?_
      refine ⟨B0, v_thing_here, a_thing_here, w, rfl, (r_thing_here.mono st.ex), Post.mono2 P.bind (fun e13 P => ?_) (fun x7 P => ?_)⟩
      · skip
        rintro C17 B14 H15 g s16
        replace st := st.go s16 go0
        replace sj1 := sj1.go s16 go0
        replace w := s16.ok
        obtain ⟨ec, ea⟩ := e13
        have he := P.guard.1
        replace P := P.guard.2
        obtain rfl : ec = "NoLeaf" := List.mem_singleton.mp he
        obtain rfl : C_NoLeaf = C17 := Value.ref.inj (Option.some.inj (T_NoLeaf.g.symm.trans g))
        refine h_wAs T_ScrollError.toExcT p_NoLeaf_ScrollError (fun ax18 haax18 => ?_)
        refine h_set ?_
        have wj20 := w
        have sj19 := Stp.refl (W := []) w
        refine h_exprJ P (fun (a : Bool) v H' => ∃ B', Stp [] B14 H15 B' H' ∧ v = .bl a) (fun N kk21 P => ?_) ?_
        · skip
          refine h_and ?_
          refine h_isE T_NoLeaf.toExcT (h_cons (h_var rfl (h_cons (h_c (h_nil ?_)))))
          refine h_isER (T_NoLeaf.kit p_NoLeaf_NoLeaf) ?_
          refine h_bl ?_
          refine h_ite (fun c1 => ?_) (fun c1 => ?_)
          · replace P := P.iteT c1
            refine h_isE T_NoLeaf.toExcT (h_cons (h_var rfl (h_cons (h_c (h_nil ?_)))))
            refine h_isEB T_NoLeaf.kitVE ?_
            exact kk21 true _ _ ⟨_, sj19, rfl⟩ P.ok
          · replace P := P.iteF c1
            exact kk21 false _ _ ⟨_, sj19, rfl⟩ P.ok
        rintro a22 v23 H25 ⟨B24, s26, r27⟩ P
        replace st := st.go s26 go0
        replace sj1 := sj1.go s26 go0
        replace w := s26.ok
        subst r27
        refine h_set1 ?_
        refine h_isET T_NoLeaf.toExcT (h_cons (h_var rfl (h_cons (h_tup ?_))))
        refine h_cons (h_c ?_)
        refine h_cons (h_c ?_)
        refine h_cons (h_c ?_)
        refine h_cons (h_c ?_)
        refine h_nil (h_clsTup w (by show 4 ≤ sizeLine; decide) fun p30 s29 => h_nil ?_)
        refine h_isETR (.cons (.own _) (.cons (.own _) (.cons (.own _) (.cons (.own _) .nil)))) (kitA_f (T_NoRule.kit p_NoLeaf_NoRule) (kitA_f (T_NoCell.kit p_NoLeaf_NoCell) (kitA_f (T_NoNumber.kit p_NoLeaf_NoNumber) (kitA_f (T_NoFilm.kit p_NoLeaf_NoFilm) kitA_nil)))) ?_
        replace st := st.go s29 go0
        replace sj1 := sj1.go s29 go0
        replace w := s29.ok
        refine h_nx ?_
        exact kk5 (none, a22, false) _ _ ⟨_, .non, _, sj1, rfl, Rep.non⟩ P.ok
      refine fun v11 B8 H9 s10 r12 => ?_
      replace st := st.go s10 go0
      replace sj1 := sj1.go s10 go0
      replace w := s10.ok
      refine h_nx ?_
      exact kk5 ((some x7), false, false) _ _ ⟨_, v11, _, sj1, rfl, r12⟩ P.ok
    · rintro a31 _ H33 ⟨B32, v35, o37, s34, rfl, r36⟩ P
      replace st := st.go s34 go0
      replace w := s34.ok
      refine h_nx ?_
      refine h_seq <| h_if ?_
      refine h_tB ?_
      refine h_var rfl ?_
      refine h_bl ?_
      refine h_ite (fun c1 => ?_) (fun c1 => ?_)
      · replace P := P.iteT c1
        refine h_ret ?_
        refine h_c ?_
        exact P.ok _ _ _ st (Rep.bl _)
      · replace P := P.iteF c1
        refine h_next ?_
        refine h_nx ?_
        refine h_seq <| h_if ?_
        refine h_tB ?_
        refine h_call ?_
        refine h_cons ?_
        refine h_var rfl ?_
        refine h_nil ?_
        refine ⟨B32, v_thing_here, a_thing_here, w, rfl, (r_thing_here.mono st.ex), (P.bind).mono (fun x38 P => ?_) (fun _ z => z)⟩
        refine fun v42 B39 H40 s41 r43 => ?_
        replace r36 := r36.mono s41.ex
        replace st := st.go s41 go0
        replace w := s41.ok
        cases r43
        refine h_bl ?_
        refine h_ite (fun c1 => ?_) (fun c1 => ?_)
        · replace P := P.iteT c1
          refine h_ret ?_
          refine h_and ?_
          refine h_not ?_
          refine h_var rfl ?_
          refine h_bl ?_
          refine h_bl ?_
          refine h_ite (fun c1 => ?_) (fun c1 => ?_)
          · replace P := P.iteT c1
            refine h_and ?_
            refine h_cb ?_
            refine h_cons ?_
            refine h_var rfl ?_
            refine h_cons ?_
            refine h_c ?_
            refine h_nil ?_
            obtain ⟨b44, hb45, P⟩ := P.isC
            refine h_isK (tab := [("Full", true), ("Mixed", false), ("Moved", false), ("Plain", false), ("Still", true), ("Woven", true)]) w r36 T_Leaf ⟨⟨_, T_Full.toKC, p_Full_Leaf⟩, ⟨⟨_, T_Mixed.toKC, p_Mixed_Leaf⟩, ⟨⟨_, T_Moved.toKC, p_Moved_Leaf⟩, ⟨⟨_, T_Plain.toKC, p_Plain_Leaf⟩, ⟨⟨_, T_Still.toKC, p_Still_Leaf⟩, ⟨⟨_, T_Woven.toKC, p_Woven_Leaf⟩, trivial⟩⟩⟩⟩⟩⟩ hb45 ?_
            refine h_bl ?_
            refine h_ite (fun c1 => ?_) (fun c1 => ?_)
            · replace P := P.iteT c1
              refine h_op ?_
              refine h_methE ?_
              refine h_var rfl ?_
              obtain ⟨x46, hx47, P⟩ := P.some
              have rc48 := r36
              rw [hx47] at rc48
              replace rc48 : Rep K B39 v35 (enc x46) := rc48
              obtain ⟨_, _, _, _, _, hv, he, hA, hl, go49⟩ := disp_Leaf__told (K := K) (mg := mg) T_Full T_Still T_Woven w rc48
              refine ⟨_, _, _, _, _, hv, he, hA, hl, ?_⟩
              refine h_nil ?_
              refine go49 w rc48 (P.bind.mono (fun x50 P => ?_) (fun _ z => z))
              refine fun v54 B51 H52 s53 r55 => ?_
              replace r36 := r36.mono s53.ex
              replace rc48 := rc48.mono s53.ex
              replace st := st.go s53 go0
              replace w := s53.ok
              refine h_var rfl ?_
              obtain ⟨gd, P⟩ := P.guard
              refine h_eqD (d := x50) (e := a_thing_here) w r55 (r_thing_here.mono st.ex) gd ?_
              exact P.ok _ _ _ st (Rep.bl _)
            · replace P := P.iteF c1
              exact P.ok _ _ _ st (Rep.bl _)
          · replace P := P.iteF c1
            exact P.ok _ _ _ st (Rep.bl _)
        · replace P := P.iteF c1
          refine h_next ?_
          refine h_nx ?_
          refine h_ret ?_
          refine h_var rfl ?_
          exact P.ok _ _ _ st (Rep.bl _)
theorem ok_law {f : Addr} {fd : FuncData}  (F : Fun K "law" "law" s_law f fd) {f__law_leaf : Addr} {d__law_leaf : FuncData} (g__law_leaf : mg "_law_leaf" = some (.ref f__law_leaf)) (k__law_leaf : PySem.W.keepIn K (.ref f__law_leaf) = true) (b__law_leaf : L2.Binds K d__law_leaf ["_law_well_here"] []) (G__law_leaf : FnOk Pr wo K mg base CX0 3 f__law_leaf d__law_leaf ["_law_well_here"] (sp__law_leaf K)) {f__law_well : Addr} {d__law_well : FuncData} (g__law_well : mg "_law_well" = some (.ref f__law_well)) (k__law_well : PySem.W.keepIn K (.ref f__law_well) = true) (b__law_well : L2.Binds K d__law_well ["_law_script", "_law_k"] []) (G__law_well : FnOk Pr wo K mg base CX0 2 f__law_well d__law_well ["_law_script", "_law_k"] (sp__law_well K)) {f__law_draw : Addr} {d__law_draw : FuncData} (g__law_draw : mg "_law_draw" = some (.ref f__law_draw)) (k__law_draw : PySem.W.keepIn K (.ref f__law_draw) = true) (b__law_draw : L2.Binds K d__law_draw ["_law_well_here", "_law_many"] []) (G__law_draw : FnOk Pr wo K mg base CX0 1 f__law_draw d__law_draw ["_law_well_here", "_law_many"] (sp__law_draw K)) {f__law_changed : Addr} {d__law_changed : FuncData} (g__law_changed : mg "_law_changed" = some (.ref f__law_changed)) (k__law_changed : PySem.W.keepIn K (.ref f__law_changed) = true) (b__law_changed : L2.Binds K d__law_changed ["_law_well_here", "_law_row"] []) (G__law_changed : FnOk Pr wo K mg base CX0 13 f__law_changed d__law_changed ["_law_well_here", "_law_row"] (sp__law_changed K)) {f__law_asked : Addr} {d__law_asked : FuncData} (g__law_asked : mg "_law_asked" = some (.ref f__law_asked)) (k__law_asked : PySem.W.keepIn K (.ref f__law_asked) = true) (b__law_asked : L2.Binds K d__law_asked ["_law_thing_here"] []) (G__law_asked : FnOk Pr wo K mg base CX0 7 f__law_asked d__law_asked ["_law_thing_here"] (sp__law_asked K)) {f__law_thing : Addr} {d__law_thing : FuncData} (g__law_thing : mg "_law_thing" = some (.ref f__law_thing)) (k__law_thing : PySem.W.keepIn K (.ref f__law_thing) = true) (b__law_thing : L2.Binds K d__law_thing ["_law_well_here", "_law_row"] []) (G__law_thing : FnOk Pr wo K mg base CX0 2 f__law_thing d__law_thing ["_law_well_here", "_law_row"] (sp__law_thing K)) (bI_list : mg "list" = none) : FnOk Pr wo K mg base CX0 14 f fd ["_law_script"] (sp_law K) := by
  refine F.ok sc_law (fun vs H Q E h => ?_) (fun cdv A outer s H0 vs Q E hr h => ?_)
  · obtain ⟨_, _, _, _, rfl, _⟩ := h; rfl
  · obtain ⟨B0, v_script, a_script, w, rfl, r_script, P⟩ := h
    have w0 := w
    have hu := hu_of hr
    have hu64 := hu64_of hr
    have hr1 : Room 1 _ := hr.mono (by decide)
    have hr2 : Room 2 _ := hr.mono (by decide)
    have hr3 : Room 3 _ := hr.mono (by decide)
    have hr7 : Room 7 _ := hr.mono (by decide)
    have hr13 : Room 13 _ := hr.mono (by decide)
    refine ⟨_, (pss_cons (ps_set (i := 1) sc_law.nd rfl (by first | exact Or.inl rfl | exact Or.inr rfl) (pe_call G__law_leaf hr3 rfl g__law_leaf k__law_leaf b__law_leaf .nil pass0 (pa_cons (pe_call G__law_well hr2 rfl g__law_well k__law_well b__law_well .nil pass0 (pa_cons (pv 0) (pa_cons pe_int pa_nil))) pa_nil)))
      (pss_cons (ps_set (i := 2) sc_law.nd rfl (by first | exact Or.inl rfl | exact Or.inr rfl) (pe_call G__law_well hr2 rfl g__law_well k__law_well b__law_well .nil pass0 (pa_cons (pv 0) (pa_cons pe_int pa_nil))))
      (pss_cons (ps_set (i := 3) sc_law.nd rfl (by first | exact Or.inl rfl | exact Or.inr rfl) (pe_call G__law_draw hr1 rfl g__law_draw k__law_draw b__law_draw .nil pass0 (pa_cons (pv 2) (pa_cons pe_int pa_nil))))
      (pss_cons (ps_set (i := 4) sc_law.nd rfl (by first | exact Or.inl rfl | exact Or.inr rfl) (pe_cmpR op_eq (pe_call G__law_draw hr1 rfl g__law_draw k__law_draw b__law_draw .nil pass0 (pa_cons (pv 2) (pa_cons pe_int pa_nil))) pe_int (nomark _)))
      (pss_cons (ps_if (pt_cmpR op_eq (pv 3) pe_int (nomark _)) (pss_one (ps_ret (pe_and (pe_call G__law_asked hr7 rfl g__law_asked k__law_asked b__law_asked .nil pass0 (pa_cons (pe_call G__law_thing hr2 rfl g__law_thing k__law_thing b__law_thing .nil pass0 (pa_cons (pv 2) (pa_cons (pv 1) pa_nil))) pa_nil)) (pe_one (pe_call G__law_asked hr7 rfl g__law_asked k__law_asked b__law_asked .nil pass0 (pa_cons (pv 1) pa_nil)))))) pss_nil)
      (pss_cons (ps_set (i := 5) sc_law.nd rfl (by first | exact Or.inl rfl | exact Or.inr rfl) (pe_call G__law_changed hr13 rfl g__law_changed k__law_changed b__law_changed .nil pass0 (pa_cons (pv 2) (pa_cons (pv 1) pa_nil))))
      (pss_cons (ps_if (pt_val (pv 4)) (pss_one (ps_set (i := 5) sc_law.nd rfl (by first | exact Or.inl rfl | exact Or.inr rfl) (pe_call G__law_changed hr13 rfl g__law_changed k__law_changed b__law_changed .nil pass0 (pa_cons (pv 2) (pa_cons (pv 5) pa_nil))))) pss_nil)
      (pss_one (ps_ret (pe_and (pe_call G__law_asked hr7 rfl g__law_asked k__law_asked b__law_asked .nil pass0 (pa_cons (pv 5) pa_nil)) (pe_and (pe_call G__law_asked hr7 rfl g__law_asked k__law_asked b__law_asked .nil pass0 (pa_cons (pv 1) pa_nil)) (pe_and (pe_call G__law_asked hr7 rfl g__law_asked k__law_asked b__law_asked .nil pass0 (pa_cons (pe_callTy (r := rListY K) cr_list (by rfl) bI_list Y.boot_list (pa_cons (pv 1) pa_nil)) pa_nil)) (pe_one (pe_call G__law_asked hr7 rfl g__law_asked k__law_asked b__law_asked .nil pass0 (pa_cons (pv 5) pa_nil))))))))))))))), ?_⟩
    unfold m_law at P
    have st := Stp.refl (W := []) w
    refine h_set ?_
    refine h_call ?_
    refine h_cons ?_
    refine h_call ?_
    refine h_cons ?_
    refine h_var rfl ?_
    refine h_cons ?_
    refine h_c ?_
    refine h_nil ?_
    refine ⟨B0, v_script, a_script, 0, w, rfl, ((r_script.step st).w sub0), (P.bind).mono (fun x1 P => ?_) (fun _ z => z)⟩
    refine fun p7 B2 H3 s4 hn8 m9 => ?_
    have n11 := st.nn hn8
    replace st := st.go s4 go0
    replace w := s4.ok
    refine h_nil ?_
    refine ⟨B2, p7, x1, w, rfl, m9, (P.bind).mono (fun x12 P => ?_) (fun _ z => z)⟩
    refine fun v16 B13 H14 s15 m9 r17 => ?_
    replace st := st.go s15 (go1 (.inr n11))
    replace w := s15.ok
    refine h_set ?_
    refine h_call ?_
    refine h_cons ?_
    refine h_var rfl ?_
    refine h_cons ?_
    refine h_c ?_
    refine h_nil ?_
    refine ⟨B13, v_script, a_script, 1, w, rfl, ((r_script.step st).w sub0), (P.bind).mono (fun x18 P => ?_) (fun _ z => z)⟩
    refine fun p24 B19 H20 s21 hn25 m26 => ?_
    have n28 := st.nn hn25
    replace r17 := r17.mono s21.ex
    replace st := st.go s21 go0
    replace w := s21.ok
    refine h_set ?_
    refine h_call ?_
    refine h_cons ?_
    refine h_var rfl ?_
    refine h_cons ?_
    refine h_c ?_
    refine h_nil ?_
    refine ⟨B19, p24, x18, 9, w, rfl, m26, (P.bind).mono (fun x29 P => ?_) (fun _ z => z)⟩
    refine fun v33 B30 H31 s32 m26 r34 => ?_
    replace r17 := r17.mono s32.ex
    replace st := st.go s32 (go1 (.inr n28))
    replace w := s32.ok
    cases r34
    refine h_set ?_
    refine h_op ?_
    refine h_call ?_
    refine h_cons ?_
    refine h_var rfl ?_
    refine h_cons ?_
    refine h_c ?_
    refine h_nil ?_
    refine ⟨B30, p24, x29.2, 3, w, rfl, m26, (P.bind).mono (fun x35 P => ?_) (fun _ z => z)⟩
    refine fun v39 B36 H37 s38 m26 r40 => ?_
    replace r17 := r17.mono s38.ex
    replace st := st.go s38 (go1 (.inr n28))
    replace w := s38.ok
    cases r40
    refine h_c ?_
    refine h_eqI ?_
    replace P := P.lt
    generalize hx : (decide (x35.1 = 0)) = x41 at P ⊢
    refine h_seq <| h_if ?_
    refine h_test ?_
    refine h_op ?_
    refine h_var rfl ?_
    refine h_c ?_
    refine h_eqI ?_
    refine h_bl ?_
    refine h_ite (fun c1 => ?_) (fun c1 => ?_)
    · replace P := P.iteT c1
      refine h_ret ?_
      refine h_and ?_
      refine h_call ?_
      refine h_cons ?_
      refine h_call ?_
      refine h_cons ?_
      refine h_var rfl ?_
      refine h_cons ?_
      refine h_var rfl ?_
      refine h_nil ?_
      refine ⟨B36, p24, x35.2, v16, x12.1, w, rfl, m26, r17, (P.bind).mono (fun x42 P => ?_) (fun _ z => z)⟩
      refine fun v46 B43 H44 s45 m26 r47 => ?_
      replace r17 := r17.mono s45.ex
      replace st := st.go s45 (go1 (.inr n28))
      replace w := s45.ok
      refine h_nil ?_
      refine ⟨B43, v46, x42.1, w, rfl, r47, (P.bind).mono (fun x48 P => ?_) (fun _ z => z)⟩
      refine fun v52 B49 H50 s51 r53 => ?_
      replace r17 := r17.mono s51.ex
      replace m26 := m26.step s51 nm0
      replace r47 := r47.mono s51.ex
      replace st := st.go s51 go0
      replace w := s51.ok
      cases r53
      refine h_bl ?_
      refine h_ite (fun c1 => ?_) (fun c1 => ?_)
      · replace P := P.iteT c1
        refine h_call ?_
        refine h_cons ?_
        refine h_var rfl ?_
        refine h_nil ?_
        refine ⟨B49, v16, x12.1, w, rfl, r17, (P.bind).mono (fun x54 P => ?_) (fun _ z => z)⟩
        refine fun v58 B55 H56 s57 r59 => ?_
        replace r17 := r17.mono s57.ex
        replace m26 := m26.step s57 nm0
        replace st := st.go s57 go0
        replace w := s57.ok
        cases r59
        exact P.ok _ _ _ st (Rep.bl _)
      · replace P := P.iteF c1
        exact P.ok _ _ _ st (Rep.bl _)
    · replace P := P.iteF c1
      refine h_next ?_
      refine h_nx ?_
      refine h_set ?_
      refine h_call ?_
      refine h_cons ?_
      refine h_var rfl ?_
      refine h_cons ?_
      refine h_var rfl ?_
      refine h_nil ?_
      refine ⟨B36, p24, x35.2, v16, x12.1, w, rfl, m26, r17, (P.bind).mono (fun x60 P => ?_) (fun _ z => z)⟩
      refine fun v64 B61 H62 s63 m26 r65 => ?_
      replace r17 := r17.mono s63.ex
      replace st := st.go s63 (go1 (.inr n28))
      replace w := s63.ok
      have wj67 := w
      have sj66 := Stp.refl (W := [p24]) w
      refine h_joinS P (fun (a : D × (List Int)) σ' H' => ∃ (B' : Hp) (v0 : V), Stp [p24] B61 H62 B' H' ∧ σ' = [some (v_script), some (v16), some ((.ref p24)), some (.int x29.1), some (.bl x41), some v0] ∧ Rep K B' v0 (enc a.1) ∧ Mu K B' H' p24 (a.2.map enc)) (fun N kk68 P => h_if ?_) ?_
      · skip
        refine h_tB ?_
        refine h_var rfl ?_
        refine h_bl ?_
        refine h_ite (fun c1 => ?_) (fun c1 => ?_)
        · replace P := P.iteT c1
          refine h_set1 ?_
          refine h_call ?_
          refine h_cons ?_
          refine h_var rfl ?_
          refine h_cons ?_
          refine h_var rfl ?_
          refine h_nil ?_
          refine ⟨B61, p24, x60.2, v64, x60.1, w, rfl, m26, r65, (P.bind).mono (fun x69 P => ?_) (fun _ z => z)⟩
          refine fun v73 B70 H71 s72 m26 r74 => ?_
          replace r17 := r17.mono s72.ex
          replace r65 := r65.mono s72.ex
          replace st := st.go s72 (go1 (.inr n28))
          replace sj66 := sj66.go s72 (go1 (.inl (by simp)))
          replace w := s72.ok
          refine h_nx ?_
          exact kk68 (x69.1, x69.2) _ _ ⟨_, v73, sj66, rfl, r74, m26⟩ P.ok
        · replace P := P.iteF c1
          refine h_next ?_
          refine h_nx ?_
          exact kk68 (x60.1, x60.2) _ _ ⟨_, v64, sj66, rfl, r65, m26⟩ P.ok
      rintro a75 _ H77 ⟨B76, v79, s78, rfl, r80, m26⟩ P
      replace r17 := r17.mono s78.ex
      replace st := st.go s78 (go1 (.inr n28))
      replace w := s78.ok
      refine h_ret ?_
      refine h_and ?_
      refine h_call ?_
      refine h_cons ?_
      refine h_var rfl ?_
      refine h_nil ?_
      refine ⟨B76, v79, a75.1, w, rfl, r80, (P.bind).mono (fun x81 P => ?_) (fun _ z => z)⟩
      refine fun v85 B82 H83 s84 r86 => ?_
      replace r17 := r17.mono s84.ex
      replace m26 := m26.step s84 nm0
      replace r80 := r80.mono s84.ex
      replace st := st.go s84 go0
      replace w := s84.ok
      cases r86
      refine h_bl ?_
      refine h_ite (fun c1 => ?_) (fun c1 => ?_)
      · replace P := P.iteT c1
        refine h_and ?_
        refine h_call ?_
        refine h_cons ?_
        refine h_var rfl ?_
        refine h_nil ?_
        refine ⟨B82, v16, x12.1, w, rfl, r17, (P.bind).mono (fun x87 P => ?_) (fun _ z => z)⟩
        refine fun v91 B88 H89 s90 r92 => ?_
        replace r17 := r17.mono s90.ex
        replace m26 := m26.step s90 nm0
        replace r80 := r80.mono s90.ex
        replace st := st.go s90 go0
        replace w := s90.ok
        cases r92
        refine h_bl ?_
        refine h_ite (fun c1 => ?_) (fun c1 => ?_)
        · replace P := P.iteT c1
          refine h_and ?_
          refine h_call ?_
          refine h_cons ?_
          refine h_cb ?_
          refine h_cons ?_
          refine h_var rfl ?_
          refine h_nil ?_
          obtain ⟨l93, hl94, P⟩ := P.asT
          have rc95 := r17
          rw [hl94] at rc95
          obtain ⟨p96, xs97, rfl, hs98, hr99⟩ := Rep.st w rc95
          refine h_listT hs98 ?_
          refine h_nwL w (ds := (l93).map enc) (K := K) hr99 (fun p100 B101 H102 s103 r104 => ?_) 
          replace r17 := r17.mono s103.ex
          replace m26 := m26.step s103 nm0
          replace r80 := r80.mono s103.ex
          replace st := st.go s103 go0
          replace w := s103.ok
          replace r104 : Rep K B101 (.ref p100) (enc l93) := r104
          refine h_nil ?_
          refine ⟨B101, (.ref p100), (enc l93), w, rfl, r104, (P.bind).mono (fun x105 P => ?_) (fun _ z => z)⟩
          refine fun v109 B106 H107 s108 r110 => ?_
          replace r17 := r17.mono s108.ex
          replace m26 := m26.step s108 nm0
          replace r80 := r80.mono s108.ex
          replace r104 := r104.mono s108.ex
          replace st := st.go s108 go0
          replace w := s108.ok
          cases r110
          refine h_bl ?_
          refine h_ite (fun c1 => ?_) (fun c1 => ?_)
          · replace P := P.iteT c1
            refine h_call ?_
            refine h_cons ?_
            refine h_var rfl ?_
            refine h_nil ?_
            refine ⟨B106, v79, a75.1, w, rfl, r80, (P.bind).mono (fun x111 P => ?_) (fun _ z => z)⟩
            refine fun v115 B112 H113 s114 r116 => ?_
            replace r17 := r17.mono s114.ex
            replace m26 := m26.step s114 nm0
            replace r80 := r80.mono s114.ex
            replace st := st.go s114 go0
            replace w := s114.ok
            cases r116
            exact P.ok _ _ _ st (Rep.bl _)
          · replace P := P.iteF c1
            exact P.ok _ _ _ st (Rep.bl _)
        · replace P := P.iteF c1
          exact P.ok _ _ _ st (Rep.bl _)
      · replace P := P.iteF c1
        exact P.ok _ _ _ st (Rep.bl _)
end
end A
set_option Elab.async false
set_option linter.all false
set_option maxRecDepth 100000
set_option maxHeartbeats 2000000
namespace Y
open PySem PySem.Spec PyProof.Rows L2
open Enc (enc)
/-! # plain mathematics over mirrors -/
/-- m gives a value, and φ of it -/
def Ok {α : Type} (m : Res α) (φ : α → Prop) : Prop := ∃ a, m = .ok a ∧ φ a
section
variable {α β : Type} {m : Res α} {φ φ' : α → Prop} {k : α → Res β} {ψ : β → Prop} {a : α} {c : Bool} {i : Int} {l : List α}
theorem Ok.pure (h : φ a) : Ok (.ok a) φ := ⟨a, rfl, h⟩
theorem Ok.bind (h : Ok m φ) (hk : ∀ a, φ a → Ok (k a) ψ) : Ok (m.bind k) ψ := by
  obtain ⟨a, e, p⟩ := h
  rw [e]
  exact hk a p
theorem Ok.bindE (e : m = .ok a) (h : Ok (k a) ψ) : Ok (m.bind k) ψ := by rw [e]; exact h
theorem Ok.mono (h : Ok m φ) (hk : ∀ a, φ a → φ' a) : Ok m φ' := by
  obtain ⟨a, e, p⟩ := h
  exact ⟨a, e, hk a p⟩
theorem Ok.ite {m m' : Res α} (h1 : c = true → Ok m φ) (h2 : c = false → Ok m' φ) : Ok (if c = true then m else m') φ := by
  cases c
  · rw [if_neg Bool.false_ne_true]; exact h2 rfl
  · rw [if_pos rfl]; exact h1 rfl
theorem Ok.iteT {m m' : Res α} (hc : c = true) (h : Ok m φ) : Ok (if c = true then m else m') φ := by
  rw [if_pos hc]; exact h
theorem Ok.iteF {m m' : Res α} (hc : c = false) (h : Ok m' φ) : Ok (if c = true then m else m') φ := by
  rw [hc, if_neg Bool.false_ne_true]; exact h
theorem Ok.guard {p : Prop} [Decidable p] (hp : p) (h : Ok m φ) : Ok (guardR p m) φ := by
  unfold guardR; rw [if_pos hp]; exact h
theorem Ok.lt {d : α} (h : Ok (k d) ψ) : Ok (Y.lt d k) ψ := h
theorem Ok.noErr (h : Ok m φ) : Ok m.noErr φ := by
  obtain ⟨a, e, p⟩ := h
  exact ⟨a, by rw [e]; rfl, p⟩
theorem atI_in (h0 : 0 ≤ i) (h1 : i < (l.length : Int)) : ∃ x, atI l i = some x ∧ l[i.toNat]? = some x ∧ x ∈ l := by
  have h2 : i.toNat < l.length := by omega
  have e : ixN l.length i = some i.toNat := by unfold ixN; rw [if_pos h0, if_pos h1]
  refine ⟨l[i.toNat], ?_, List.getElem?_eq_getElem h2, List.getElem_mem h2⟩
  unfold atI
  rw [e]
  exact List.getElem?_eq_getElem h2
theorem Ok.ix (h0 : 0 ≤ i) (h1 : i < (l.length : Int)) (h : ∀ x, x ∈ l → l[i.toNat]? = some x → Ok (k x) ψ) : Ok ((ixR l i).bind k) ψ := by
  obtain ⟨x, e, e2, m⟩ := atI_in h0 h1
  unfold ixR
  rw [e]
  exact h x m e2
theorem Ok.ixs {x : α} (e : ixR l i = .ok x) (h : Ok (k x) ψ) : Ok ((ixR l i).bind k) ψ := by rw [e]; exact h
/-- an item of a written list -/
theorem Ok.ixm (h0 : 0 ≤ i) (h1 : i < (l.length : Int)) (h : ∀ x, x ∈ l → Ok (k x) ψ) : Ok ((ixR l i).bind k) ψ := Ok.ix h0 h1 fun x m _ => h x m
/-- a loop that keeps I and ends by itself -/
theorem Ok.for {S R : Type} {f : α → S → Res (Fl S R)} (I : S → Prop) (hf : ∀ x s, x ∈ l → I s → Ok (f x s) fun r => ∃ s', r = .nx s' ∧ I s') : ∀ {s : S}, I s → Ok (forR l s f) fun r => ∃ s', r = .nx s' ∧ I s' := by
  induction l with
  | nil => intro s h; exact ⟨_, rfl, s, rfl, h⟩
  | cons x xs ih =>
    intro s h
    refine Ok.bind (hf x s List.mem_cons_self h) ?_
    rintro r ⟨s', rfl, h'⟩
    exact ih (fun y s m h => hf y s (List.mem_cons_of_mem _ m) h) h'
/-- a comprehension: each turn gives a good thing and keeps I -/
theorem Ok.compL {S R : Type} {f : α → S → Res (Option R × S)} (I : S → Prop) (G : R → Prop) (hf : ∀ x s, x ∈ l → I s → Ok (f x s) fun r => I r.2 ∧ ∀ b, r.1 = some b → G b) : ∀ {s : S}, I s → Ok (compL l s f) fun r => I r.2 ∧ ∀ b ∈ r.1, G b := by
  induction l with
  | nil => intro s h; exact ⟨_, rfl, h, fun _ m => nomatch m⟩
  | cons x xs ih =>
    intro s h
    refine Ok.bind (hf x s List.mem_cons_self h) ?_
    rintro ⟨o, s'⟩ ⟨h', g⟩
    refine Ok.bind (ih (fun y s m h => hf y s (List.mem_cons_of_mem _ m) h) h') ?_
    rintro ⟨bs, s2⟩ ⟨h2, g2⟩
    refine ⟨_, rfl, h2, fun b m => ?_⟩
    cases o with
    | none => exact g2 b m
    | some b0 =>
      rcases List.mem_cons.mp m with e | m
      · rw [e]; exact g b0 rfl
      · exact g2 b m
theorem Ok.comp {S R : Type} {f : α → S → Res (Option R × S)} {s : S} (hl : l.length ≤ 1000000) (I : S → Prop) (G : R → Prop) (hf : ∀ x s, x ∈ l → I s → Ok (f x s) fun r => I r.2 ∧ ∀ b, r.1 = some b → G b) (h : I s) : Ok (compR l s f) fun r => I r.2 ∧ ∀ b ∈ r.1, G b := Ok.guard hl (Ok.compL I G hf h)
/-- .. and no more things than turns -/
theorem Ok.compLen {S R : Type} {f : α → S → Res (Option R × S)} {s : S} (hl : l.length ≤ 1000000) (I : S → Prop) (G : R → Prop) (hf : ∀ x s, x ∈ l → I s → Ok (f x s) fun r => I r.2 ∧ ∀ b, r.1 = some b → G b) (h : I s) : Ok (compR l s f) fun r => I r.2 ∧ (∀ b ∈ r.1, G b) ∧ r.1.length ≤ l.length := by
  refine Ok.guard hl ?_
  clear hl
  induction l generalizing s with
  | nil => exact ⟨_, rfl, h, (fun _ m => nomatch m), Nat.le_refl _⟩
  | cons x xs ih =>
    refine Ok.bind (hf x s List.mem_cons_self h) ?_
    rintro ⟨o, s'⟩ ⟨h', g⟩
    refine Ok.bind (ih (fun y s m h => hf y s (List.mem_cons_of_mem _ m) h) h') ?_
    rintro ⟨bs, s2⟩ ⟨h2, g2, g3⟩
    refine ⟨_, rfl, h2, fun b m => ?_, ?_⟩
    · cases o with
      | none => exact g2 b m
      | some b0 =>
        rcases List.mem_cons.mp m with e | m
        · rw [e]; exact g b0 rfl
        · exact g2 b m
    · cases o with
      | none => exact Nat.le_succ_of_le g3
      | some b0 => exact Nat.succ_le_succ g3
end
theorem log2_small {n b : Nat} (h : n < 2 ^ b) (h0 : 0 < b) : n.log2 < b := PySem.Flt.log2_lt_of h0 h
theorem mulW {i j : Int} {a b : Nat} (ha : i.natAbs < 2 ^ a) (hb : j.natAbs < 2 ^ b) (h0 : 0 < a := by decide) (h1 : 0 < b := by decide) (h : a + b ≤ 1000000 := by decide) : CMulW i j := wide_mul ha hb h0 h1 h
theorem divW {i j : Int} {b : Nat} (h : 0 < j) (hb : j.natAbs < 2 ^ b) (h0 : 0 < b := by decide) (h9 : b ≤ 9000 := by decide) : CDivW i j := wide_div h hb h0 h9
theorem cutL_mem {α : Type} {l : List α} {lo hi : Option Int} {x : α} (h : x ∈ cutL l lo hi) : x ∈ l := List.mem_of_mem_drop (List.mem_of_mem_take h)
theorem cutL_len {α : Type} {l : List α} {lo hi : Option Int} : (cutL l lo hi).length ≤ l.length := by
  unfold cutL
  rw [List.length_take, List.length_drop]
  omega
mutual
theorem eqv_refl : ∀ d : D, flatD d = true → PyData.eqv (pyD d) (pyD d) = true
  | .non, _ => rfl
  | .bl b, _ => by show (b == b) = true; simp
  | .int i, _ => by show (i == i) = true; simp
  | .str x, _ => by show (x == x) = true; simp
  | .lst ds, h => eqvs_refl ds h
  | .tup ds, h => eqvs_refl ds h
  | .dic _, h => nomatch h
  | .obj _ _, h => nomatch h
theorem eqvs_refl : ∀ ds : List D, flatDs ds = true → PyData.eqvAll (pyDs ds) (pyDs ds) = true
  | [], _ => rfl
  | d :: ds, h => by
    have h' : (flatD d && flatDs ds) = true := h
    rw [Bool.and_eq_true] at h'
    show (PyData.eqv (pyD d) (pyD d) && PyData.eqvAll (pyDs ds) (pyDs ds)) = true
    rw [eqv_refl d h'.1, eqvs_refl ds h'.2]
    rfl
end
theorem eqD_refl {d : D} (h : flatD d = true) : eqD d d = true := eqv_refl d h
theorem flat_ints : ∀ l : List Int, flatDs (l.map enc) = true
  | [] => rfl
  | i :: l => by show (flatD (.int i) && flatDs (l.map enc)) = true; rw [flat_ints l]; rfl

mutual
/-- data that may be compared: no dict, texts plain, not deep -/
def eqOk (n : Nat) : D → Bool
  | .lst ds => match n with | 0 => false | n + 1 => eqOks n ds
  | .tup ds => match n with | 0 => false | n + 1 => eqOks n ds
  | .dic _ => false
  | .obj _ _ => false
  | .str x => PyData.strOk x
  | _ => true
def eqOks (n : Nat) : List D → Bool
  | [] => true
  | d :: ds => eqOk n d && eqOks n ds
end
mutual
theorem eqOk_flat : ∀ (d : D) (n : Nat), eqOk n d = true → flatD d = true ∧ (pyD d).canLay0 = true ∧ (pyD d).depth ≤ n
  | .non, _, _ => ⟨rfl, rfl, Nat.zero_le _⟩
  | .bl _, _, _ => ⟨rfl, rfl, Nat.zero_le _⟩
  | .int _, _, _ => ⟨rfl, rfl, Nat.zero_le _⟩
  | .str _, _, h => ⟨rfl, h, Nat.zero_le _⟩
  | .lst ds, n + 1, h => let ⟨a, b, c⟩ := eqOks_flat ds n h; ⟨a, b, Nat.succ_le_succ c⟩
  | .tup ds, n + 1, h => let ⟨a, b, c⟩ := eqOks_flat ds n h; ⟨a, b, Nat.succ_le_succ c⟩
  | .lst _, 0, h => nomatch h
  | .tup _, 0, h => nomatch h
  | .dic _, _, h => nomatch h
  | .obj _ _, _, h => nomatch h
theorem eqOks_flat : ∀ (ds : List D) (n : Nat), eqOks n ds = true → flatDs ds = true ∧ PyData.canLayAll0 (pyDs ds) = true ∧ PyData.depthAll (pyDs ds) ≤ n
  | [], _, _ => ⟨rfl, rfl, Nat.zero_le _⟩
  | d :: ds, n, h => by
    have h' : (eqOk n d && eqOks n ds) = true := h
    rw [Bool.and_eq_true] at h'
    obtain ⟨a, b, c⟩ := eqOk_flat d n h'.1
    obtain ⟨a', b', c'⟩ := eqOks_flat ds n h'.2
    refine ⟨?_, ?_, ?_⟩
    · show (flatD d && flatDs ds) = true; rw [a, a']; rfl
    · show (PyData.canLay0 (pyD d) && PyData.canLayAll0 (pyDs ds)) = true; rw [b, b']; rfl
    · exact Nat.max_le.mpr ⟨c, c'⟩
end
theorem okEq_of {d e : D} (h : eqOk 20 d = true) (h' : eqOk 20 e = true) : okEq d e := by
  obtain ⟨a, b, c⟩ := eqOk_flat d 20 h
  obtain ⟨a', b', c'⟩ := eqOk_flat e 20 h'
  refine ⟨a, a', ?_, ?_⟩
  · unfold SeqAt.shaped; rw [b, decide_eq_true (Nat.le_trans c (by decide))]; rfl
  · unfold SeqAt.shaped; rw [b', decide_eq_true (Nat.le_trans c' (by decide))]; rfl
theorem eqOk_ints : ∀ (l : List Int) (n : Nat), eqOks n (l.map enc) = true
  | [], _ => rfl
  | i :: l, n => by show (eqOk n (.int i) && eqOks n (l.map enc)) = true; rw [eqOk_ints l n]; rfl
/-- a comprehension without a state whose turns give values -/
theorem compL_map {α β : Type} {f : α → Unit → Res (Option β × Unit)} {g : α → β} : ∀ {l : List α}, (∀ x ∈ l, f x () = .ok (some (g x), ())) → compL l () f = .ok (l.map g, ())
  | [], _ => rfl
  | x :: xs, h => by
    unfold compL
    rw [h x List.mem_cons_self]
    show ((compL xs () f).bind fun q => .ok (g x :: q.1, q.2)) = _
    rw [compL_map fun y m => h y (List.mem_cons_of_mem _ m)]
    rfl
theorem compR_map {α β : Type} {f : α → Unit → Res (Option β × Unit)} {g : α → β} {l : List α} (hl : l.length ≤ 1000000) (h : ∀ x ∈ l, f x () = .ok (some (g x), ())) : compR l () f = .ok (l.map g, ()) := by
  unfold compR guardR
  rw [if_pos hl, compL_map h]
def smallD (d : D) : Prop := match d with | .lst ds => ds.length ≤ 1000000 | _ => True
end Y

set_option Elab.async false
set_option linter.all false
set_option maxRecDepth 100000
set_option maxHeartbeats 2000000
namespace A
open PySem PySem.Spec PyProof.Rows L2 Y
open Y.Enc (enc)
/-! # draws from a well -/
theorem Ok.setW {α β : Type} {l : List α} {i : Int} {x : α} {k : List α → Res β} {ψ : β → Prop} (h0 : 0 ≤ i) (h1 : i < (l.length : Int)) (h : ∀ l', l'.length = l.length → Ok (k l') ψ) : Ok ((setR l i x).bind k) ψ := by
  have e : setR l i x = .ok (l.set i.toNat x) := by
    unfold setR
    have e : ixN l.length i = some i.toNat := by unfold ixN; rw [if_pos h0, if_pos h1]
    rw [e]
  rw [e]
  exact h _ (List.length_set ..)
theorem draw_ok {st : List Int} {b : Int} (hl : st.length = 3) (hb : 0 < b) (hb2 : b.natAbs < 2 ^ 4000) : Ok (l_draw st b) fun r => (0 ≤ r.1 ∧ r.1 < b) ∧ r.2.length = 3 := by
  unfold l_draw
  refine Ok.ix (by decide) (by omega) fun x _ _ => Ok.ite (fun c => ?_) (fun c => ?_)
  · refine Ok.ix (by decide) (by omega) fun y _ _ => Ok.guard hb (Ok.lt (Ok.ix (by decide) (by omega) fun z _ _ => Ok.guard (divW hb hb2) (Ok.setW (by decide) (by omega) fun l' e => Ok.pure ⟨⟨Int.emod_nonneg _ (Int.ne_of_gt hb), Int.emod_lt_of_pos _ hb⟩, e.trans hl⟩)))
  · refine Ok.ix (by decide) (by omega) fun y _ _ => Ok.setW (by decide) (by omega) fun l' e => Ok.ix (by decide) (by omega) fun z _ _ => Ok.ix (by decide) (by omega) fun u _ _ => Ok.lt ?_
    generalize hn : (((z + 7919 * u) + 1) * 48271) % 2147483647 = n
    have hn1 : 0 ≤ n ∧ n < 2147483647 := by subst hn; exact ⟨Int.emod_nonneg _ (by decide), Int.emod_lt_of_pos _ (by decide)⟩
    refine Ok.guard (mulW (a := 32) (b := 32) (by omega) (by omega)) (Ok.lt ?_)
    generalize hm : (n * (n / 1009 + 69621)) % 2147483647 = m
    have hm1 : 0 ≤ m ∧ m < 2147483647 := by subst hm; exact ⟨Int.emod_nonneg _ (by decide), Int.emod_lt_of_pos _ (by decide)⟩
    refine Ok.guard (mulW (a := 32) (b := 32) (by omega) (by omega)) (Ok.guard hb (Ok.pure ⟨⟨Int.emod_nonneg _ (Int.ne_of_gt hb), Int.emod_lt_of_pos _ hb⟩, e.trans hl⟩))
theorem dw {β : Type} {st : List Int} {b : Int} {k : Int × List Int → Res β} {ψ : β → Prop} (h : st.length = 3) (hb : 0 < b) (hb2 : b.natAbs < 18446744073709551616) (hk : ∀ x s, 0 ≤ x → x < b → s.length = 3 → Ok (k (x, s)) ψ) : Ok ((l_draw st b).bind k) ψ :=
  Ok.bind (draw_ok h hb (Nat.lt_of_lt_of_le (show b.natAbs < 2 ^ 64 from hb2) (Nat.pow_le_pow_right (by decide) (by decide)))) fun r p => hk r.1 r.2 p.1.1 p.1.2 p.2
theorem well_ok {ns : List Int} {k : Int} (h0 : 0 ≤ k) : Ok (l_well ns k) fun r => r.length = 3 := by
  unfold l_well
  refine Ok.bind (φ := fun _ => True) ?_ fun x _ => Ok.pure rfl
  unfold l_cell_at
  refine Ok.ite (fun c => Ok.ix h0 (of_decide_eq_true c) fun x _ _ => Ok.pure trivial) fun c => Ok.guard (okEq_of (eqOk_ints ns 19) rfl) (Ok.ite (fun _ => Ok.pure trivial) fun e => ?_)
  have hn : 0 < (ns.length : Int) := by
    cases ns with
    | nil => exact nomatch e
    | cons x l => show (0 : Int) < ((l.length + 1 : Nat) : Int); omega
  exact Ok.guard hn (Ok.ix (Int.emod_nonneg _ (Int.ne_of_gt hn)) (Int.emod_lt_of_pos _ hn) fun x _ _ => Ok.pure trivial)
end A

set_option Elab.async false
set_option linter.all false
set_option maxRecDepth 100000
set_option maxHeartbeats 2000000
namespace A
open PySem PySem.Spec PyProof.Rows L2 Y
open Y.Enc (enc)
/-- it is this text -/
def isStr (d : D) (s : Str) : Bool := match d with | .str t => decide (t = s) | _ => false
theorem eqStr (d : D) (s : Str) : eqD d (enc s) = isStr d s := by
  cases d <;> rfl
theorem stepEq {α : Type} {d : D} {s : Str} {X Y : Res α} (h : eqOk 20 d = true) (hs : PyData.strOk s = true) : (guardR (okEq d (enc s)) (if (eqD d (enc s)) = true then X else Y)) = if isStr d s = true then X else Y := by
  unfold guardR
  rw [if_pos (okEq_of h (show eqOk 20 (enc s) = true from hs)), eqStr]
theorem stepNe {α : Type} {d : D} {s : Str} {X Y : Res α} (h : eqOk 20 d = true) (hs : PyData.strOk s = true) : (guardR (okEq d (enc s)) (if (!(eqD d (enc s))) = true then X else Y)) = if isStr d s = true then Y else X := by
  unfold guardR
  rw [if_pos (okEq_of h (show eqOk 20 (enc s) = true from hs)), eqStr]
  cases isStr d s <;> rfl
theorem stepN {d : D} {s : Str} (h : eqOk 20 d = true) (hs : PyData.strOk s = true) : (guardR (okEq d (enc s)) (.ok (!(eqD d (enc s)))) : Res Bool) = .ok (!(isStr d s)) := by
  unfold guardR
  rw [if_pos (okEq_of h (show eqOk 20 (enc s) = true from hs)), eqStr]
theorem sp1 : PyData.strOk "plain" = true := by decide +kernel
theorem sp2 : PyData.strOk "moved" = true := by decide +kernel
theorem sp3 : PyData.strOk "mixed" = true := by decide +kernel
def toI (d : D) : Int := match d with | .int i => i | _ => 0
theorem whole_int {d : D} {lo hi : Int} (h : isWhole d lo hi = true) : d = .int (toI d) := by
  cases d with
  | int i => rfl
  | _ => exact nomatch h
def refE (o : Option K_Rule) : Res K_Rule := match o with | some r => .ok r | none => .err ⟨"NoRule", []⟩
theorem need_m (a b : D) : m_is_need a b = .ok (isWhole a 1 200 && isWhole b 0 15) := by
  unfold m_is_need
  show Res.bind (Res.ok (isWhole a 1 200)) _ = _
  cases isWhole a 1 200 <;> rfl
theorem str_apart {d : D} {s t : Str} (h : isStr d s = true) (hn : s ≠ t) : isStr d t = false := by
  cases d with
  | str x =>
    have e : x = s := of_decide_eq_true h
    exact decide_eq_false fun q => hn (e.symm.trans q)
  | _ => rfl
theorem pm : ("plain" : Str) ≠ "moved" := by decide +kernel
theorem px : ("plain" : Str) ≠ "mixed" := by decide +kernel
theorem mx : ("moved" : Str) ≠ "mixed" := by decide +kernel
section
variable {α β : Type} {m m' x : Res α}
theorem Is.bind {m : Res β} {k : β → Res α} {a : β} (e : m = .ok a) (h : k a = x) : m.bind k = x := by rw [e]; exact h
theorem Is.iteT {c : Bool} (hc : c = true) (h : m = x) : (if c = true then m else m') = x := by rw [if_pos hc]; exact h
theorem Is.iteF {c : Bool} (hc : c = false) (h : m' = x) : (if c = true then m else m') = x := by rw [hc]; exact h
theorem Is.ite {c : Bool} (h1 : c = true → m = x) (h2 : c = false → m' = x) : (if c = true then m else m') = x := by
  cases c
  · exact h2 rfl
  · exact h1 rfl
end
theorem ixg {l : List D} (k : Nat) (h : k < l.length) : ixR l (k : Int) = .ok (l.getD k .non) := by
  unfold ixR atI ixN
  rw [if_pos (by omega), if_pos (by omega), Int.toNat_natCast]
  simp [List.getElem?_eq_getElem h]
abbrev q1 (l : List D) : D := l.getD 1 .non
abbrev q2 (l : List D) : D := l.getD 2 .non
abbrev q3 (l : List D) : D := l.getD 3 .non
abbrev q4 (l : List D) : D := l.getD 4 .non
def cP (l : List D) : Bool := isStr (l.getD 0 .non) "plain" && (decide ((l.length : Int) = 2) && isWhole (q1 l) 0 255)
def cN (l : List D) : Bool := isStr (l.getD 0 .non) "moved" && (decide ((l.length : Int) = 4) && (isWhole (q1 l) 1 200 && isWhole (q2 l) 0 15))
def cX (l : List D) : Bool := isStr (l.getD 0 .non) "mixed" && decide ((l.length : Int) = 5)
def cY (l : List D) : Bool := (isWhole (q1 l) 1 200 && isWhole (q2 l) 0 15) && (isWhole (q3 l) 1 200 && isWhole (q4 l) 0 15)
/-- the rule that is told so -/
def ruleL (l : List D) : Option K_Rule :=
  if cP l = true then some (.Plain (toI (q1 l))) else if (cN l && isWhole (q3 l) 0 255) = true then some (.Moved (toI (q1 l)) (toI (q2 l)) (toI (q3 l))) else
  if (cX l && cY l) = true then some (.Mixed (toI (q1 l)) (toI (q2 l)) (toI (q3 l)) (toI (q4 l))) else none
theorem as_int {d : D} {lo hi : Int} (h : isWhole d lo hi = true) : asI d = .ok (toI d) := by rw [whole_int h]; rfl
theorem rule_m {l : List D} (h : ∀ x ∈ l, eqOk 20 x = true) : m_rule_of (.tup l) = refE (ruleL l) := by
  cases l with
  | nil => rfl
  | cons w r =>
    have hw := h w List.mem_cons_self
    unfold m_rule_of
    refine Is.iteT (by decide +kernel : isS "tuple" "tuple" = true) (Is.bind (a := w :: r) rfl (Is.iteF (by simp; omega) ?_))
    have e0 : (w :: r).getD 0 .non = w := rfl
    generalize hl : w :: r = l at *
    have i0 : ixR l 0 = .ok w := by
      have := ixg (l := l) 0 (by rw [← hl]; simp)
      rw [e0] at this
      exact this
    refine Is.bind (a := cP l) ?_ ?_
    · refine Is.bind (a := l) rfl (Is.bind i0 ?_)
      rw [stepEq hw sp1]
      unfold cP
      rw [e0]
      refine Is.ite (fun c => ?_) fun c => by rw [c]; rfl
      rw [c]
      refine Is.bind (a := l) rfl (Is.ite (fun d => ?_) fun d => by rw [d]; rfl)
      rw [d]
      have := of_decide_eq_true d
      exact Is.bind (a := l) rfl (Is.bind (ixg 1 (by omega)) rfl)
    unfold ruleL
    refine Is.ite (fun c => ?_) fun c => ?_
    · rw [c]
      unfold cP at c
      simp only [Bool.and_eq_true, decide_eq_true_eq] at c
      exact Is.bind (a := l) rfl (Is.bind (ixg 1 (by omega)) (Is.bind (as_int c.2.2) rfl))
    rw [c]
    refine Is.bind (a := (if (cN l && isWhole (q3 l) 0 255) = true then Fl.rt (K_Rule.Moved (toI (q1 l)) (toI (q2 l)) (toI (q3 l))) else Fl.nx () : Fl Unit K_Rule)) ?_ ?_
    · refine Is.bind (a := cN l) ?_ ?_
      · refine Is.bind (a := l) rfl (Is.bind i0 ?_)
        rw [stepEq hw sp2]
        unfold cN
        rw [e0]
        refine Is.ite (fun c => ?_) fun c => by rw [c]; rfl
        rw [c]
        refine Is.bind (a := l) rfl (Is.ite (fun d => ?_) fun d => by rw [d]; rfl)
        rw [d]
        have := of_decide_eq_true d
        exact Is.bind (a := l) rfl (Is.bind (ixg 1 (by omega)) (Is.bind (a := l) rfl (Is.bind (ixg 2 (by omega)) (Is.bind (by rw [need_m]; rfl) rfl))))
      · refine Is.ite (fun c => ?_) fun c => by rw [c]; rfl
        rw [c]
        unfold cN at c
        simp only [Bool.and_eq_true, decide_eq_true_eq] at c
        refine Is.bind (a := l) rfl (Is.bind (ixg 3 (by omega)) (Is.bind (a := isWhole (q3 l) 0 255) rfl (Is.ite (fun d => ?_) fun d => by rw [show isWhole (q3 l) 0 255 = false from d]; rfl)))
        rw [show isWhole (q3 l) 0 255 = true from d]
        exact Is.bind (a := l) rfl (Is.bind (ixg 1 (by omega)) (Is.bind (a := l) rfl (Is.bind (ixg 2 (by omega)) (Is.bind (a := l) rfl (Is.bind (ixg 3 (by omega)) (Is.bind (as_int c.2.2.1) (Is.bind (as_int c.2.2.2) (Is.bind (as_int d) rfl))))))))
    cases cN l && isWhole (q3 l) 0 255 with
    | true => rfl
    | false =>
    show Res.bind _ _ = _
    refine Is.bind (a := (if (cX l && cY l) = true then Fl.rt (K_Rule.Mixed (toI (q1 l)) (toI (q2 l)) (toI (q3 l)) (toI (q4 l))) else Fl.nx () : Fl Unit K_Rule)) ?_ ?_
    · refine Is.bind (a := cX l) ?_ ?_
      · refine Is.bind (a := l) rfl (Is.bind i0 ?_)
        rw [stepEq hw sp3]
        unfold cX
        rw [e0]
        refine Is.ite (fun c => ?_) fun c => by rw [c]; rfl
        rw [c]
        exact Is.bind (a := l) rfl rfl
      · refine Is.ite (fun c => ?_) fun c => by rw [c]; rfl
        rw [c]
        unfold cX at c
        simp only [Bool.and_eq_true, decide_eq_true_eq] at c
        have b1 := ixg (l := l) 1 (by omega)
        have b2 := ixg (l := l) 2 (by omega)
        have b3 := ixg (l := l) 3 (by omega)
        have b4 := ixg (l := l) 4 (by omega)
        refine Is.bind (a := cY l) ?_ ?_
        · refine Is.bind (a := l) rfl (Is.bind b1 (Is.bind (a := l) rfl (Is.bind b2 (Is.bind (by rw [need_m]; rfl) ?_))))
          unfold cY
          refine Is.ite (fun d => ?_) fun d => by rw [show (isWhole (q1 l) 1 200 && isWhole (q2 l) 0 15) = false from d]; rfl
          rw [show (isWhole (q1 l) 1 200 && isWhole (q2 l) 0 15) = true from d]
          exact Is.bind (a := l) rfl (Is.bind b3 (Is.bind (a := l) rfl (Is.bind b4 (Is.bind (by rw [need_m]; rfl) rfl))))
        · refine Is.ite (fun d => ?_) fun d => by rw [d]; rfl
          rw [d]
          unfold cY at d
          simp only [Bool.and_eq_true] at d
          exact Is.bind (a := l) rfl (Is.bind b1 (Is.bind (a := l) rfl (Is.bind b2 (Is.bind (a := l) rfl (Is.bind b3 (Is.bind (a := l) rfl (Is.bind b4 (Is.bind (as_int d.1.1) (Is.bind (as_int d.1.2) (Is.bind (as_int d.2.1) (Is.bind (as_int d.2.2) rfl)))))))))))
    cases cX l && cY l <;> rfl
end A

set_option Elab.async false
set_option linter.all false
set_option maxRecDepth 100000
set_option maxHeartbeats 2000000
namespace A
open PySem PySem.Spec PyProof.Rows L2 Y
open Y.Enc (enc)
theorem within_l (d : D) (lo hi : Int) : l_within d lo hi = .ok (isWhole d lo hi) := by
  unfold l_within l_whole
  cases d with
  | int i =>
    refine Is.bind (a := true) (Is.iteT (by decide +kernel : isS "int" "int" = true) (congrArg Res.ok (by decide +kernel : (!(isS "int" "bool")) = true))) (Is.iteT rfl (Is.bind (a := i) rfl ?_))
    show (if decide (lo ≤ i) = true then _ else _) = Res.ok (decide (lo ≤ i) && decide (i ≤ hi))
    cases decide (lo ≤ i) <;> rfl
  | bl b => exact Is.bind (a := false) (Is.iteT (by decide +kernel : isS "bool" "int" = true) (congrArg Res.ok (by decide +kernel : (!(isS "bool" "bool")) = false))) (Is.iteF rfl rfl)
  | non => exact Is.bind (a := false) (Is.iteF (by decide +kernel : isS "NoneType" "int" = false) rfl) (Is.iteF rfl rfl)
  | str x => exact Is.bind (a := false) (Is.iteF (by decide +kernel : isS "str" "int" = false) rfl) (Is.iteF rfl rfl)
  | lst x => exact Is.bind (a := false) (Is.iteF (by decide +kernel : isS "list" "int" = false) rfl) (Is.iteF rfl rfl)
  | tup x => exact Is.bind (a := false) (Is.iteF (by decide +kernel : isS "tuple" "int" = false) rfl) (Is.iteF rfl rfl)
  | dic x => exact Is.bind (a := false) (Is.iteF (by decide +kernel : isS "dict" "int" = false) rfl) (Is.iteF rfl rfl)
  | obj x y => exact Is.bind (a := false) (Is.iteF (by decide +kernel : isS "object" "int" = false) rfl) (Is.iteF rfl rfl)
theorem some_eq (l : List D) : (ruleL l).isSome = (cP l || ((cN l && isWhole (q3 l) 0 255) || (cX l && cY l))) := by
  unfold ruleL
  cases cP l
  · cases cN l && isWhole (q3 l) 0 255
    · cases cX l && cY l <;> rfl
    · rfl
  · rfl
theorem isstr (w : D) : isA "str" w = true ∨ (isA "str" w = false ∧ ∀ s, isStr w s = false) := by
  cases w with
  | str x => exact .inl (by decide +kernel : isS "str" "str" = true)
  | int i => exact .inr ⟨(by decide +kernel : isS "int" "str" = false), fun s => rfl⟩
  | bl b => exact .inr ⟨(by decide +kernel : isS "bool" "str" = false), fun s => rfl⟩
  | non => exact .inr ⟨(by decide +kernel : isS "NoneType" "str" = false), fun s => rfl⟩
  | lst x => exact .inr ⟨(by decide +kernel : isS "list" "str" = false), fun s => rfl⟩
  | tup x => exact .inr ⟨(by decide +kernel : isS "tuple" "str" = false), fun s => rfl⟩
  | dic x => exact .inr ⟨(by decide +kernel : isS "dict" "str" = false), fun s => rfl⟩
  | obj x y => exact .inr ⟨(by decide +kernel : isS "object" "str" = false), fun s => rfl⟩
theorem is_rule_l {l : List D} (h : ∀ x ∈ l, eqOk 20 x = true) : l_is_rule (.tup l) = .ok (ruleL l).isSome := by
  cases l with
  | nil => rfl
  | cons w r =>
    have hw := h w List.mem_cons_self
    unfold l_is_rule
    refine Is.iteT (by decide +kernel : isS "tuple" "tuple" = true) (Is.bind (a := w :: r) rfl (Is.iteF (by simp; omega) ?_))
    have e0 : (w :: r).getD 0 .non = w := rfl
    have len : 0 < (w :: r).length := by simp
    generalize hl : w :: r = l at *
    have i0 : ixR l 0 = .ok w := by
      have := ixg (l := l) 0 len
      rw [e0] at this
      exact this
    have al : asT (.tup l) = .ok l := rfl
    refine Is.bind al (Is.bind i0 ?_)
    rw [some_eq]
    have u1 : cP l = (isStr w "plain" && (decide ((l.length : Int) = 2) && isWhole (q1 l) 0 255)) := by unfold cP; rw [e0]
    have u2 : cN l = (isStr w "moved" && (decide ((l.length : Int) = 4) && (isWhole (q1 l) 1 200 && isWhole (q2 l) 0 15))) := by unfold cN; rw [e0]
    have u3 : cX l = (isStr w "mixed" && decide ((l.length : Int) = 5)) := by unfold cX; rw [e0]
    rcases isstr w with hs | ⟨hs, hn⟩
    · refine Is.iteT hs (Is.bind al (Is.bind i0 ?_))
      rw [stepEq hw sp1]
      refine Is.ite (fun p1 => ?_) fun p1 => ?_
      · have p2 := str_apart p1 pm
        have p3 := str_apart p1 px
        rw [u1, u2, u3, p1, p2, p3]
        refine Is.bind al (Is.ite (fun d => ?_) fun d => by rw [d]; rfl)
        have := of_decide_eq_true d
        rw [d]
        refine Is.bind al (Is.bind (ixg 1 (by omega)) (Is.bind (within_l ..) ?_))
        simp
      rw [u1, p1]
      refine Is.bind (a := !(isStr w "moved") && !(isStr w "mixed")) ?_ ?_
      · refine Is.bind al (Is.bind i0 ?_)
        rw [stepNe hw sp2]
        refine Is.ite (fun p2 => by rw [p2]; rfl) fun p2 => ?_
        rw [p2]
        refine Is.bind al (Is.bind i0 ?_)
        rw [stepN hw sp3]
        rfl
      refine Is.ite (fun b => ?_) fun b => ?_
      · simp only [Bool.and_eq_true, Bool.not_eq_true'] at b
        rw [u2, u3, b.1, b.2]
        rfl
      refine Is.bind al (Is.ite (fun d => ?_) fun d => ?_)
      · have := of_decide_eq_true d
        rw [u2, u3, decide_eq_false (show ¬ (l.length : Int) = 4 by omega), decide_eq_false (show ¬ (l.length : Int) = 5 by omega)]
        simp
      have d' := of_decide_eq_false d
      refine Is.bind al (Is.bind (ixg 1 (by omega)) (Is.bind (within_l ..) (Is.ite (fun w1 => ?_) fun w1 => ?_)))
      · refine Is.bind al (Is.bind (ixg 2 (by omega)) (Is.bind (within_l ..) (Is.ite (fun w2 => ?_) fun w2 => ?_)))
        · refine Is.bind al (Is.bind i0 ?_)
          rw [stepEq hw sp2]
          have w1' : isWhole (q1 l) 1 200 = true := w1
          have w2' : isWhole (q2 l) 0 15 = true := w2
          refine Is.ite (fun p2 => ?_) fun p2 => ?_
          · have p3 := str_apart p2 mx
            refine Is.bind al (Is.ite (fun f => ?_) fun f => ?_)
            · have := of_decide_eq_true f
              refine Is.bind al (Is.bind (ixg 3 (by omega)) (Is.bind (within_l ..) ?_))
              rw [u2, u3, p2, p3, f, w1', w2']
              simp
            · rw [u2, u3, p2, p3, f]
              simp
          · have p3 : isStr w "mixed" = true := by
              rw [p2] at b
              cases q : isStr w "mixed" with
              | true => rfl
              | false => rw [q] at b; exact nomatch b
            refine Is.bind al (Is.ite (fun f => ?_) fun f => ?_)
            · have := of_decide_eq_true f
              refine Is.bind al (Is.bind (ixg 3 (by omega)) (Is.bind (within_l ..) (Is.ite (fun w3 => ?_) fun w3 => ?_)))
              · refine Is.bind al (Is.bind (ixg 4 (by omega)) (Is.bind (within_l ..) ?_))
                have w3' : isWhole (q3 l) 1 200 = true := w3
                unfold cY
                rw [u2, u3, p2, p3, f, w1', w2', w3']
                simp
              · have w3' : isWhole (q3 l) 1 200 = false := w3
                unfold cY
                rw [u2, u3, p2, p3, f, w1', w2', w3']
                simp
            · rw [u2, u3, p2, p3, f]
              simp
        · have w2' : isWhole (q2 l) 0 15 = false := w2
          unfold cY
          rw [u2, w2']
          simp
      · have w1' : isWhole (q1 l) 1 200 = false := w1
        unfold cY
        rw [u2, w1']
        simp
    · refine Is.iteF hs ?_
      rw [u1, u2, u3, hn, hn, hn]
      rfl
theorem len2 {l : List D} (h : l.length = 2) : l = [l.getD 0 .non, q1 l] := match l, h with | [_, _], _ => rfl
theorem len4 {l : List D} (h : l.length = 4) : l = [l.getD 0 .non, q1 l, q2 l, q3 l] := match l, h with | [_, _, _, _], _ => rfl
theorem len5 {l : List D} (h : l.length = 5) : l = [l.getD 0 .non, q1 l, q2 l, q3 l, q4 l] := match l, h with | [_, _, _, _, _], _ => rfl
theorem isstr_eq {d : D} {s : Str} (h : isStr d s = true) : d = .str s := by
  cases d with
  | str x => rw [show x = s from of_decide_eq_true h]
  | _ => exact nomatch h
end A

set_option Elab.async false
set_option linter.all false
set_option maxRecDepth 100000
set_option maxHeartbeats 2000000
namespace A
open PySem PySem.Spec PyProof.Rows L2 Y
open Y.Enc (enc)
/-- a rule as it is told -/
def rowR : K_Rule → List D
  | .Plain w => [.str "plain", .int w]
  | .Moved b c a => [.str "moved", .int b, .int c, .int a]
  | .Mixed b c b2 c2 => [.str "mixed", .int b, .int c, .int b2, .int c2]
def goodR : K_Rule → Prop
  | .Plain w => 0 ≤ w ∧ w ≤ 255
  | .Moved b c a => (1 ≤ b ∧ b ≤ 200) ∧ (0 ≤ c ∧ c ≤ 15) ∧ 0 ≤ a ∧ a ≤ 255
  | .Mixed b c b2 c2 => (1 ≤ b ∧ b ≤ 200) ∧ (0 ≤ c ∧ c ≤ 15) ∧ (1 ≤ b2 ∧ b2 ≤ 200) ∧ 0 ≤ c2 ∧ c2 ≤ 15
theorem whole_of {i lo hi : Int} (h : lo ≤ i) (h' : i ≤ hi) : isWhole (.int i) lo hi = true := by
  show (decide (lo ≤ i) && decide (i ≤ hi)) = true
  rw [decide_eq_true h, decide_eq_true h']
  rfl
theorem row_ok (r : K_Rule) : ∀ x ∈ rowR r, eqOk 18 x = true := by
  intro x m
  cases r <;> simp only [rowR, List.mem_cons, List.not_mem_nil, or_false] at m
  · rcases m with rfl | rfl
    · exact sp1
    · rfl
  · rcases m with rfl | rfl | rfl | rfl
    · exact sp2
    all_goals rfl
  · rcases m with rfl | rfl | rfl | rfl | rfl
    · exact sp3
    all_goals rfl
theorem is_self (s : Str) : isStr (.str s) s = true := decide_eq_true rfl
theorem rule_row {r : K_Rule} (h : goodR r) : m_rule_of (.tup (rowR r)) = .ok r := by
  rw [rule_m fun x m => by
    have := row_ok r x m
    cases x with
    | str s => exact this
    | int i => rfl
    | bl b => rfl
    | non => rfl
    | _ => cases r <;> simp [rowR] at m]
  have e : ruleL (rowR r) = some r := by
    cases r with
    | Plain w =>
      obtain ⟨h1, h2⟩ := h
      unfold ruleL
      rw [if_pos (show cP (rowR (.Plain w)) = true by
        show (isStr (.str "plain") "plain" && (true && isWhole (.int w) 0 255)) = true
        rw [is_self, whole_of h1 h2]
        rfl)]
      rfl
    | Moved b c a =>
      obtain ⟨⟨h1, h2⟩, ⟨h3, h4⟩, h5, h6⟩ := h
      unfold ruleL
      rw [if_neg (show ¬ cP (rowR (.Moved b c a)) = true by
        show ¬ (isStr (.str "moved") "plain" && _) = true
        rw [str_apart (is_self "moved") pm.symm]
        simp), if_pos (show (cN (rowR (.Moved b c a)) && isWhole (q3 (rowR (.Moved b c a))) 0 255) = true by
        show ((isStr (.str "moved") "moved" && (true && (isWhole (.int b) 1 200 && isWhole (.int c) 0 15))) && isWhole (.int a) 0 255) = true
        rw [is_self, whole_of h1 h2, whole_of h3 h4, whole_of h5 h6]
        rfl)]
      rfl
    | Mixed b c b2 c2 =>
      obtain ⟨⟨h1, h2⟩, ⟨h3, h4⟩, ⟨h5, h6⟩, h7, h8⟩ := h
      unfold ruleL
      rw [if_neg (show ¬ cP (rowR (.Mixed b c b2 c2)) = true by
        show ¬ (isStr (.str "mixed") "plain" && _) = true
        rw [str_apart (is_self "mixed") px.symm]
        simp), if_neg (show ¬ (cN (rowR (.Mixed b c b2 c2)) && isWhole (q3 (rowR (.Mixed b c b2 c2))) 0 255) = true by
        show ¬ ((isStr (.str "mixed") "moved" && _) && _) = true
        rw [str_apart (is_self "mixed") mx.symm]
        simp), if_pos (show (cX (rowR (.Mixed b c b2 c2)) && cY (rowR (.Mixed b c b2 c2))) = true by
        show ((isStr (.str "mixed") "mixed" && true) && ((isWhole (.int b) 1 200 && isWhole (.int c) 0 15) && (isWhole (.int b2) 1 200 && isWhole (.int c2) 0 15))) = true
        rw [is_self, whole_of h1 h2, whole_of h3 h4, whole_of h5 h6, whole_of h7 h8]
        rfl)]
      rfl
  rw [e]
  rfl
/-- what of a rule fits -/
def fitsR (n w : Int) : K_Rule → Bool
  | .Plain _ => true
  | .Moved b c _ => decide (b ≤ n) && decide (c < w)
  | .Mixed b c b2 c2 => (decide (b ≤ n) && decide (c < w)) && (decide (b2 ≤ n) && decide (c2 < w))
/-- the pairs that a rule needs fit -/
def needs (r : K_Rule) : List (Tp2 Int Int) := match r with | .Plain _ => [] | .Moved b c _ => [⟨b, c⟩] | .Mixed b c b2 c2 => [⟨b, c⟩, ⟨b2, c2⟩]
def stNd (n w : Int) (x : Tp2 Int Int) (_ : Unit) : Res (Fl Unit (Fl Unit Bool)) := if (decide (n < x.a)) = true then .ok (.rt (.rt false)) else (if (decide (w ≤ x.b)) = true then .ok (.rt (.rt false)) else .ok (.nx ()))
def endN (b : Bool) : Fl Unit (Fl Unit Bool) := if b = true then .nx () else .rt (.rt false)
theorem inner (r : K_Rule) (n w : Int) : forR (needs r) () (stNd n w) = .ok (endN (fitsR n w r)) := by
  have one : ∀ (b c : Int) {α : Type} (X Y : Res α), (if decide (n < b) = true then Y else if decide (w ≤ c) = true then Y else X) = if (decide (b ≤ n) && decide (c < w)) = true then X else Y := by
    intro b c α X Y
    by_cases h : n < b
    · rw [if_pos (decide_eq_true h), decide_eq_false (show ¬ b ≤ n by omega)]
      rfl
    · rw [if_neg (by rw [decide_eq_false h]; decide), decide_eq_true (show b ≤ n by omega)]
      by_cases h' : w ≤ c
      · rw [if_pos (decide_eq_true h'), decide_eq_false (show ¬ c < w by omega)]
        rfl
      · rw [if_neg (by rw [decide_eq_false h']; decide), decide_eq_true (show c < w by omega)]
        rfl
  cases r with
  | Plain v => rfl
  | Moved b c a =>
    show Res.bind (if decide (n < b) = true then _ else if decide (w ≤ c) = true then _ else _) _ = _
    rw [one]
    show _ = Res.ok (endN (decide (b ≤ n) && decide (c < w)))
    cases decide (b ≤ n) && decide (c < w) <;> rfl
  | Mixed b c b2 c2 =>
    show Res.bind (if decide (n < b) = true then _ else if decide (w ≤ c) = true then _ else _) _ = _
    rw [one]
    show _ = Res.ok (endN ((decide (b ≤ n) && decide (c < w)) && (decide (b2 ≤ n) && decide (c2 < w))))
    cases decide (b ≤ n) && decide (c < w) with
    | false => rfl
    | true =>
      show Res.bind (if decide (n < b2) = true then _ else if decide (w ≤ c2) = true then _ else _) _ = _
      rw [one]
      cases decide (b2 ≤ n) && decide (c2 < w) <;> rfl
/-! # leaves as they are told -/
inductive Lf where
  | full (t s : Int) (vs : List Int) | still (t s b : Int) | woven (t s : Int) (rs : List K_Rule)
def goodL : Lf → Prop
  | .full t s vs => ((0 ≤ t ∧ t ≤ 1000000000) ∧ 1 ≤ s ∧ s ≤ 1000000000) ∧ (∀ v ∈ vs, 0 ≤ v ∧ v ≤ 255) ∧ 1 ≤ vs.length ∧ vs.length ≤ 16
  | .still t s b => ((0 ≤ t ∧ t ≤ 1000000000) ∧ 1 ≤ s ∧ s ≤ 1000000000) ∧ 1 ≤ b ∧ b ≤ 200
  | .woven t s rs => ((0 ≤ t ∧ t ≤ 1000000000) ∧ 1 ≤ s ∧ s ≤ 1000000000) ∧ (∀ r ∈ rs, goodR r) ∧ 1 ≤ rs.length ∧ rs.length ≤ 16
def tupV (vs : List Int) : D := .tup (vs.map D.int)
def tupR (rs : List K_Rule) : D := .tup (rs.map fun r => .tup (rowR r))
def rowL : Lf → List D
  | .full t s vs => [.str "full", .int t, .int s, tupV vs]
  | .still t s b => [.str "still", .int t, .int s, .int b]
  | .woven t s rs => [.str "woven", .int t, .int s, tupR rs]
def leafL : Lf → K_Leaf
  | .full t s vs => .Full t s (tupV vs)
  | .still t s b => .Still t s b
  | .woven t s rs => .Woven t s (tupR rs)
theorem sf : PyData.strOk "full" = true := by decide +kernel
theorem ss : PyData.strOk "still" = true := by decide +kernel
theorem sw : PyData.strOk "woven" = true := by decide +kernel
theorem fs_ : ("full" : Str) ≠ "still" := by decide +kernel
theorem fw_ : ("full" : Str) ≠ "woven" := by decide +kernel
theorem sw_ : ("still" : Str) ≠ "woven" := by decide +kernel
theorem is_tup : isS "tuple" "tuple" = true := by decide +kernel
theorem row_value {t s : Int} {vs : List Int} (h : goodL (.full t s vs)) : m_is_row_of__is_value (tupV vs) = .ok true := by
  obtain ⟨_, hv, h1, h2⟩ := h
  unfold m_is_row_of__is_value
  refine Is.iteT is_tup (Is.bind (a := vs.map D.int) rfl (Is.iteT (by rw [List.length_map]; exact decide_eq_true (by omega)) (Is.iteT (by rw [List.length_map]; exact decide_eq_true (by omega)) (Is.bind (a := vs.map D.int) rfl ?_))))
  rw [compR_map (g := fun x => isWhole x 0 255) (by rw [List.length_map]; omega) (fun x _ => rfl)]
  show Res.ok (((vs.map D.int).map fun x => isWhole x 0 255).all id) = .ok true
  refine congrArg Res.ok ?_
  rw [List.all_map, List.all_map, List.all_eq_true]
  exact fun v m => whole_of (hv v m).1 (hv v m).2
theorem row_rule {t s : Int} {rs : List K_Rule} (h : goodL (.woven t s rs)) : m_is_row_of__is_rule (tupR rs) = .ok true := by
  obtain ⟨_, hv, h1, h2⟩ := h
  unfold m_is_row_of__is_rule
  refine Is.iteT is_tup (Is.bind (a := rs.map fun r => .tup (rowR r)) rfl (Is.iteT (by rw [List.length_map]; exact decide_eq_true (by omega)) (Is.iteT (by rw [List.length_map]; exact decide_eq_true (by omega)) (Is.bind (a := rs.map fun r => .tup (rowR r)) rfl ?_))))
  rw [compR_map (g := fun _ => true) (by rw [List.length_map]; omega) (fun x m => by
    obtain ⟨r, mr, rfl⟩ := List.mem_map.mp m
    refine Is.bind (a := true) ?_ rfl
    unfold m_is_rule
    rw [rule_row (hv r mr)]
    rfl)]
  show Res.ok (((rs.map fun r => D.tup (rowR r)).map fun _ => true).all id) = .ok true
  refine congrArg Res.ok ?_
  rw [List.all_map, List.all_map, List.all_eq_true]
  exact fun _ _ => rfl
theorem leaf_m {l : Lf} (h : goodL l) : m_leaf_of (.tup (rowL l)) = .ok (leafL l) := by
  unfold m_leaf_of
  have start : (rowL l).length = 4 := by cases l <;> rfl
  refine Is.iteT is_tup (Is.bind (a := rowL l) rfl (Is.iteF (by rw [start]; rfl) (Is.bind (a := rowL l) rfl ?_)))
  unfold guardR
  rw [if_pos start]
  cases l with
  | full t s vs =>
    refine Is.bind (a := .str "full") rfl (Is.bind (a := .int t) rfl (Is.bind (a := .int s) rfl (Is.bind (a := tupV vs) rfl (Is.bind (a := true) (by show Res.noErr (Res.ok (isWhole (.int t) 0 1000000000)) = _; rw [whole_of h.1.1.1 h.1.1.2]; rfl) (Is.iteT rfl (Is.bind (a := true) (by show Res.noErr (Res.ok (isWhole (.int s) 1 1000000000)) = _; rw [whole_of h.1.2.1 h.1.2.2]; rfl) (Is.iteT rfl ?_)))))))
    refine Is.bind (a := true) ?_ (Is.iteT rfl rfl)
    refine (stepEq (show eqOk 20 (.str "full") = true from sf) sf).trans ?_
    rw [is_self]
    refine Is.iteT rfl (Is.bind (a := true) (by rw [row_value h]; rfl) rfl)
  | still t s b =>
    refine Is.bind (a := .str "still") rfl (Is.bind (a := .int t) rfl (Is.bind (a := .int s) rfl (Is.bind (a := .int b) rfl (Is.bind (a := true) (by show Res.noErr (Res.ok (isWhole (.int t) 0 1000000000)) = _; rw [whole_of h.1.1.1 h.1.1.2]; rfl) (Is.iteT rfl (Is.bind (a := true) (by show Res.noErr (Res.ok (isWhole (.int s) 1 1000000000)) = _; rw [whole_of h.1.2.1 h.1.2.2]; rfl) (Is.iteT rfl ?_)))))))
    refine Is.bind (a := false) ?_ (Is.iteF rfl (Is.bind (a := true) ?_ (Is.iteT rfl rfl)))
    · refine (stepEq (show eqOk 20 (.str "still") = true from ss) sf).trans ?_
      rw [str_apart (is_self "still") fs_.symm]
      rfl
    · refine (stepEq (show eqOk 20 (.str "still") = true from ss) ss).trans ?_
      rw [is_self]
      exact Is.iteT rfl (Is.bind (a := true) (by show Res.noErr (Res.ok (isWhole (.int b) 1 200)) = _; rw [whole_of h.2.1 h.2.2]; rfl) rfl)
  | woven t s rs =>
    refine Is.bind (a := .str "woven") rfl (Is.bind (a := .int t) rfl (Is.bind (a := .int s) rfl (Is.bind (a := tupR rs) rfl (Is.bind (a := true) (by show Res.noErr (Res.ok (isWhole (.int t) 0 1000000000)) = _; rw [whole_of h.1.1.1 h.1.1.2]; rfl) (Is.iteT rfl (Is.bind (a := true) (by show Res.noErr (Res.ok (isWhole (.int s) 1 1000000000)) = _; rw [whole_of h.1.2.1 h.1.2.2]; rfl) (Is.iteT rfl ?_)))))))
    refine Is.bind (a := false) ?_ (Is.iteF rfl (Is.bind (a := false) ?_ (Is.iteF rfl (Is.bind (a := true) ?_ (Is.iteT rfl rfl)))))
    · refine (stepEq (show eqOk 20 (.str "woven") = true from sw) sf).trans ?_
      rw [str_apart (is_self "woven") fw_.symm]
      rfl
    · refine (stepEq (show eqOk 20 (.str "woven") = true from sw) ss).trans ?_
      rw [str_apart (is_self "woven") sw_.symm]
      rfl
    · refine (stepEq (show eqOk 20 (.str "woven") = true from sw) sw).trans ?_
      rw [is_self]
      exact Is.iteT rfl (Is.bind (a := true) (by rw [row_rule h]; rfl) rfl)
/-- what of a leaf fits -/
def fitsL (n w : Int) : Lf → Bool
  | .full _ _ vs => decide ((vs.length : Int) = w)
  | .still _ _ b => decide (b ≤ n)
  | .woven _ _ rs => decide ((rs.length : Int) = w) && rs.all (fitsR n w)
theorem loop_all {f : Int → Unit → Res (Fl Unit Bool)} {p : Int → Bool} : ∀ (xs : List Int), (∀ x ∈ xs, f x () = .ok (if p x = true then .nx () else .rt false)) → forR xs () f = .ok (if xs.all p = true then .nx () else .rt false)
  | [], _ => rfl
  | x :: xs, h => by
    have ih := loop_all xs fun y m => h y (List.mem_cons_of_mem _ m)
    show Res.bind (f x ()) _ = _
    rw [h x List.mem_cons_self, List.all_cons]
    cases p x with
    | true => exact ih
    | false => rfl
theorem mem_rng {n x : Int} (h : x ∈ rngI 0 n) : 0 ≤ x ∧ x < n := by
  unfold rngI at h
  simp only [List.mem_map, List.mem_range] at h
  obtain ⟨i, hi, e⟩ := h
  omega
theorem rng_mem {n x : Int} (h : 0 ≤ x) (h' : x < n) : x ∈ rngI 0 n := by
  unfold rngI
  simp only [List.mem_map, List.mem_range]
  exact ⟨x.toNat, by omega, by omega⟩
theorem ix_at {α : Type} {l : List α} {x : Int} {a : α} (h0 : 0 ≤ x) (h : l[x.toNat]? = some a) : ixR l x = .ok a := by
  have h1 := (List.getElem?_eq_some_iff.mp h).1
  unfold ixR atI ixN
  rw [if_pos h0, if_pos (by omega)]
  simp [h]
theorem whole_at {x k : Int} (h : 0 ≤ x) (h' : x < k) : m_is_whole (enc x) 0 (k - 1) = .ok true := congrArg Res.ok (whole_of h (by omega))
theorem told_l (l : Lf) : m_Leaf__told (leafL l) = .ok (.tup (rowL l)) := by cases l <;> rfl
theorem ok_l {l : Lf} : eqOk 20 (.tup (rowL l)) = true := by
  cases l with
  | full t s vs =>
    show (PyData.strOk "full" && (true && (true && (eqOks 18 (vs.map D.int) && true)))) = true
    rw [sf, show eqOks 18 (vs.map D.int) = true from eqOk_ints vs 18]
    rfl
  | still t s b =>
    show (PyData.strOk "still" && true) = true
    rw [ss]
    rfl
  | woven t s rs =>
    show (PyData.strOk "woven" && (true && (true && (eqOks 18 (rs.map fun r => D.tup (rowR r)) && true)))) = true
    have : eqOks 18 (rs.map fun r => D.tup (rowR r)) = true := by
      induction rs with
      | nil => rfl
      | cons r rs ih =>
        show (eqOks 17 (rowR r) && eqOks 18 (rs.map fun r => D.tup (rowR r))) = true
        rw [ih]
        cases r with
        | Plain v => show (PyData.strOk "plain" && true) && true = true; rw [sp1]; rfl
        | Moved b c a => show (PyData.strOk "moved" && true) && true = true; rw [sp2]; rfl
        | Mixed b c b2 c2 => show (PyData.strOk "mixed" && true) && true = true; rw [sp3]; rfl
    rw [sw, this]
    rfl
theorem Ok.compAll {α S R : Type} {f : α → S → Res (Option R × S)} {l : List α} {s : S} (hl : l.length ≤ 1000000) (I : S → Prop) (G : R → Prop) (hf : ∀ x s, x ∈ l → I s → Ok (f x s) fun r => I r.2 ∧ ∃ b, r.1 = some b ∧ G b) (h : I s) : Ok (compR l s f) fun r => I r.2 ∧ (∀ b ∈ r.1, G b) ∧ r.1.length = l.length := by
  refine Ok.guard hl ?_
  clear hl
  induction l generalizing s with
  | nil => exact ⟨_, rfl, h, (fun _ m => nomatch m), rfl⟩
  | cons x xs ih =>
    refine Ok.bind (hf x s List.mem_cons_self h) ?_
    rintro ⟨_, s'⟩ ⟨h', b0, rfl, g⟩
    refine Ok.bind (ih (fun y s m h => hf y s (List.mem_cons_of_mem _ m) h) h') ?_
    rintro ⟨bs, s2⟩ ⟨h2, g2, g3⟩
    refine ⟨_, rfl, h2, fun b m => ?_, congrArg Nat.succ g3⟩
    rcases List.mem_cons.mp m with e | m
    · rw [e]; exact g
    · exact g2 b m
theorem rows_of : ∀ {l : List D}, (∀ d ∈ l, ∃ q, d = .tup (rowR q) ∧ goodR q) → ∃ rs : List K_Rule, l = rs.map (fun r => .tup (rowR r)) ∧ ∀ r ∈ rs, goodR r
  | [], _ => ⟨[], rfl, fun _ m => nomatch m⟩
  | d :: l, h => by
    obtain ⟨q, rfl, hq⟩ := h d List.mem_cons_self
    obtain ⟨rs, rfl, hr⟩ := rows_of fun y m => h y (List.mem_cons_of_mem _ m)
    refine ⟨q :: rs, rfl, fun r m => ?_⟩
    rcases List.mem_cons.mp m with rfl | m
    · exact hq
    · exact hr r m
theorem rng_len (n : Int) : (rngI 0 n).length = n.toNat := by unfold rngI; simp
end A

set_option Elab.async false
set_option linter.all false
set_option maxRecDepth 100000
set_option maxHeartbeats 2000000
namespace A
open PySem PySem.Spec PyProof.Rows L2 Y
open Y.Enc (enc)
theorem Is.guard {α : Type} {m x : Res α} {p : Prop} [Decidable p] (hp : p) (h : m = x) : guardR p m = x := by unfold guardR; rw [if_pos hp]; exact h
/-! ## what leaf_of tells -/
def isRuleD (x : D) : Bool := match x with | .tup l => (ruleL l).isSome | _ => false
def rowV (d : D) : Bool := match d with | .tup vs => (decide (1 ≤ (vs.length : Int)) && decide ((vs.length : Int) ≤ 16)) && vs.all fun x => isWhole x 0 255 | _ => false
def rowW (d : D) : Bool := match d with | .tup rs => (decide (1 ≤ (rs.length : Int)) && decide ((rs.length : Int) ≤ 16)) && rs.all isRuleD | _ => false
theorem rowV_t (vs : List D) : rowV (.tup vs) = ((decide (1 ≤ (vs.length : Int)) && decide ((vs.length : Int) ≤ 16)) && vs.all fun x => isWhole x 0 255) := rfl
theorem rowW_t (rs : List D) : rowW (.tup rs) = ((decide (1 ≤ (rs.length : Int)) && decide ((rs.length : Int) ≤ 16)) && rs.all isRuleD) := rfl
/-- a thing that can be told apart: tuples within tuples -/
def Fine (d : D) : Prop := eqOk 20 d = true ∧ ∀ l, d = .tup l → ∀ x ∈ l, eqOk 20 x = true
theorem tupD (d : D) : isA "tuple" d = true → ∃ l, d = .tup l := by
  intro h
  cases d with
  | tup l => exact ⟨l, rfl⟩
  | non => exact absurd h (by show ¬ isS "NoneType" "tuple" = true; decide +kernel)
  | bl b => exact absurd h (by show ¬ isS "bool" "tuple" = true; decide +kernel)
  | int b => exact absurd h (by show ¬ isS "int" "tuple" = true; decide +kernel)
  | str b => exact absurd h (by show ¬ isS "str" "tuple" = true; decide +kernel)
  | lst b => exact absurd h (by show ¬ isS "list" "tuple" = true; decide +kernel)
  | dic b => exact absurd h (by show ¬ isS "dict" "tuple" = true; decide +kernel)
  | obj b c => exact absurd h (by show ¬ isS "object" "tuple" = true; decide +kernel)
theorem notup {d : D} (h : isA "tuple" d = false) : rowV d = false ∧ rowW d = false ∧ isRuleD d = false := by
  cases d with
  | tup l => exact absurd h (by rw [show isA "tuple" (.tup l) = true from is_tup]; decide)
  | _ => exact ⟨rfl, rfl, rfl⟩
theorem is_rule_m {x : D} (h : Fine x) : m_is_rule x = .ok (isRuleD x) := by
  unfold m_is_rule
  by_cases c : isA "tuple" x = true
  · obtain ⟨l, rfl⟩ := tupD x c
    rw [rule_m (h.2 l rfl)]
    show _ = Res.ok (ruleL l).isSome
    cases ruleL l with
    | some r => rfl
    | none =>
      show Res.bind (guardR (("NoRule" : Str) ∈ (["NoRule"] : List Str)) _) _ = _
      unfold guardR
      rw [if_pos (by simp)]
      rfl
  · have c' := Bool.eq_false_iff.mpr c
    rw [(notup c').2.2, show m_rule_of x = .err ⟨"NoRule", []⟩ by unfold m_rule_of; exact Is.iteF c' rfl]
    show Res.bind (guardR (("NoRule" : Str) ∈ (["NoRule"] : List Str)) _) _ = _
    unfold guardR
    rw [if_pos (by simp)]
    rfl
theorem is_rule_d {x : D} (h : Fine x) : l_is_rule x = .ok (isRuleD x) := by
  by_cases c : isA "tuple" x = true
  · obtain ⟨l, rfl⟩ := tupD x c
    exact is_rule_l (h.2 l rfl)
  · have c' := Bool.eq_false_iff.mpr c
    rw [(notup c').2.2]
    unfold l_is_rule
    exact Is.iteF c' rfl
theorem row_v (d : D) : m_is_row_of__is_value d = .ok (rowV d) := by
  unfold m_is_row_of__is_value
  by_cases c : isA "tuple" d = true
  · obtain ⟨l, rfl⟩ := tupD d c
    refine Is.iteT is_tup (Is.bind (a := l) rfl (Is.ite (fun a => ?_) fun a => by rw [rowV_t, a]; rfl))
    refine Is.ite (fun b => ?_) fun b => by rw [rowV_t, a, b]; rfl
    have hb := of_decide_eq_true b
    refine Is.bind (a := l) rfl ?_
    rw [compR_map (g := fun x => isWhole x 0 255) (by omega) (fun x _ => rfl)]
    rw [rowV_t, a, b]
    show Res.ok ((l.map fun x => isWhole x 0 255).all id) = _
    rw [List.all_map]
    rfl
  · have c' := Bool.eq_false_iff.mpr c
    rw [(notup c').1]
    exact Is.iteF c' rfl
theorem row_w {d : D} (h : ∀ l, d = .tup l → ∀ x ∈ l, Fine x) : m_is_row_of__is_rule d = .ok (rowW d) := by
  unfold m_is_row_of__is_rule
  by_cases c : isA "tuple" d = true
  · obtain ⟨l, rfl⟩ := tupD d c
    refine Is.iteT is_tup (Is.bind (a := l) rfl (Is.ite (fun a => ?_) fun a => by rw [rowW_t, a]; rfl))
    refine Is.ite (fun b => ?_) fun b => by rw [rowW_t, a, b]; rfl
    have hb := of_decide_eq_true b
    refine Is.bind (a := l) rfl ?_
    rw [compR_map (g := isRuleD) (by omega) (fun x m => by rw [is_rule_m (h l rfl x m)]; rfl)]
    rw [rowW_t, a, b]
    show Res.ok ((l.map isRuleD).all id) = _
    rw [List.all_map]
    rfl
  · have c' := Bool.eq_false_iff.mpr c
    rw [(notup c').2.1]
    exact Is.iteF c' rfl
abbrev q0 (l : List D) : D := l.getD 0 .non
def cT (l : List D) : Bool := isWhole (q1 l) 0 1000000000 && isWhole (q2 l) 1 1000000000
/-- the leaf that is told so -/
def leafO (l : List D) : Option K_Leaf :=
  if (decide ((l.length : Int) = 4) && cT l) = true then
    (if (isStr (q0 l) "full" && rowV (q3 l)) = true then some (.Full (toI (q1 l)) (toI (q2 l)) (q3 l)) else
     if (isStr (q0 l) "still" && isWhole (q3 l) 1 200) = true then some (.Still (toI (q1 l)) (toI (q2 l)) (toI (q3 l))) else
     if (isStr (q0 l) "woven" && rowW (q3 l)) = true then some (.Woven (toI (q1 l)) (toI (q2 l)) (q3 l)) else none)
  else none
def refL (o : Option K_Leaf) : Res K_Leaf := match o with | some r => .ok r | none => .err ⟨"NoLeaf", []⟩
/-- what may be asked: its parts, and theirs, can be told apart -/
def FineL (l : List D) : Prop := ∀ x ∈ l, Fine x ∧ ∀ r, x = .tup r → ∀ y ∈ r, Fine y
theorem q_mem {l : List D} (h : l.length = 4) : q0 l ∈ l ∧ q1 l ∈ l ∧ q2 l ∈ l ∧ q3 l ∈ l := match l, h with
  | [a, b, c, d], _ => ⟨by show a ∈ _; simp, by show b ∈ _; simp, by show c ∈ _; simp, by show d ∈ _; simp⟩
theorem leaf_l {l : List D} (h : FineL l) : m_leaf_of (.tup l) = refL (leafO l) := by
  unfold m_leaf_of
  refine Is.iteT is_tup (Is.bind (a := l) rfl (Is.ite (fun c => ?_) fun c => ?_))
  · unfold leafO
    rw [show decide ((l.length : Int) = 4) = false by simpa using c]
    rfl
  have c4 : decide ((l.length : Int) = 4) = true := by simpa using c
  have hl : l.length = 4 := by have := of_decide_eq_true c4; omega
  obtain ⟨m0, m1, m2, m3⟩ := q_mem hl
  unfold leafO
  rw [c4, Bool.true_and]
  have eqs := (h _ m0).1.1
  refine Is.bind (a := l) rfl (Is.guard hl ?_)
  refine Is.bind (ixg 0 (by omega)) (Is.bind (ixg 1 (by omega)) (Is.bind (ixg 2 (by omega)) (Is.bind (ixg 3 (by omega)) ?_)))
  refine Is.bind (a := isWhole (q1 l) 0 1000000000) rfl (Is.ite (fun w1 => ?_) fun w1 => by unfold cT; rw [w1]; rfl)
  refine Is.bind (a := isWhole (q2 l) 1 1000000000) rfl (Is.ite (fun w2 => ?_) fun w2 => by unfold cT; rw [w1, w2]; rfl)
  unfold cT
  rw [w1, w2]
  have a1 := as_int w1
  have a2 := as_int w2
  refine Is.bind (a := isStr (q0 l) "full" && rowV (q3 l)) ?_ ?_
  · refine (stepEq eqs sf).trans (Is.ite (fun c => ?_) fun c => by rw [c]; rfl)
    rw [c, row_v]
    rfl
  refine (?_ : _ = refL (if (isStr (q0 l) "full" && rowV (q3 l)) = true then _ else _))
  refine Is.ite (fun c => ?_) fun c => ?_
  · rw [if_pos c]
    exact Is.bind a1 (Is.bind a2 rfl)
  rw [if_neg (show ¬ (isStr (q0 l) "full" && rowV (q3 l)) = true by rw [c]; decide)]
  refine Is.bind (a := isStr (q0 l) "still" && isWhole (q3 l) 1 200) ?_ (Is.ite (fun c => ?_) fun c => ?_)
  · refine (stepEq eqs ss).trans (Is.ite (fun c => ?_) fun c => by rw [c]; rfl)
    rw [c]
    rfl
  · rw [if_pos c]
    simp only [Bool.and_eq_true] at c
    exact Is.bind a1 (Is.bind a2 (Is.bind (as_int c.2) rfl))
  rw [if_neg (show ¬ (isStr (q0 l) "still" && isWhole (q3 l) 1 200) = true by rw [c]; decide)]
  refine Is.bind (a := isStr (q0 l) "woven" && rowW (q3 l)) ?_ (Is.ite (fun c => ?_) fun c => ?_)
  · refine (stepEq eqs sw).trans (Is.ite (fun c => ?_) fun c => by rw [c]; rfl)
    rw [c, row_w (h _ m3).2]
    rfl
  · rw [if_pos c]
    exact Is.bind a1 (Is.bind a2 rfl)
  rw [if_neg (show ¬ (isStr (q0 l) "woven" && rowW (q3 l)) = true by rw [c]; decide)]
  rfl
theorem some_leaf (l : List D) : (leafO l).isSome = (decide ((l.length : Int) = 4) && (cT l && ((isStr (q0 l) "full" && rowV (q3 l)) || ((isStr (q0 l) "still" && isWhole (q3 l) 1 200) || (isStr (q0 l) "woven" && rowW (q3 l)))))) := by
  unfold leafO
  cases decide ((l.length : Int) = 4) <;> cases cT l <;> try rfl
  cases (isStr (q0 l) "full" && rowV (q3 l)) <;> try rfl
  cases (isStr (q0 l) "still" && isWhole (q3 l) 1 200) <;> try rfl
  cases (isStr (q0 l) "woven" && rowW (q3 l)) <;> rfl
theorem is_leaf_l {l : List D} (h : FineL l) : l_is_leaf (.tup l) = .ok (leafO l).isSome := by
  unfold l_is_leaf
  rw [some_leaf]
  refine Is.iteT is_tup (Is.bind (a := l) rfl (Is.ite (fun c => ?_) fun c => ?_))
  · rw [show decide ((l.length : Int) = 4) = false by simpa using c]
    rfl
  have c4 : decide ((l.length : Int) = 4) = true := by simpa using c
  have hl : l.length = 4 := by have := of_decide_eq_true c4; omega
  obtain ⟨m0, m1, m2, m3⟩ := q_mem hl
  have eqs := (h _ m0).1.1
  have al : asT (.tup l) = .ok l := rfl
  have i0 : ixR l 0 = .ok (q0 l) := ixg 0 (by omega)
  have i1 : ixR l 1 = .ok (q1 l) := ixg 1 (by omega)
  have i2 : ixR l 2 = .ok (q2 l) := ixg 2 (by omega)
  have i3 : ixR l 3 = .ok (q3 l) := ixg 3 (by omega)
  rw [c4, Bool.true_and]
  refine Is.bind al (Is.bind i0 ?_)
  rcases isstr (q0 l) with hs | ⟨hs, hn⟩
  case inr =>
    refine Is.iteF hs ?_
    rw [hn, hn, hn]
    cases cT l <;> rfl
  refine Is.iteT hs (Is.bind al (Is.bind i1 (Is.bind (within_l ..) (Is.ite (fun w1 => ?_) fun w1 => by unfold cT; rw [w1]; rfl))))
  refine Is.bind al (Is.bind i2 (Is.bind (within_l ..) (Is.ite (fun w2 => ?_) fun w2 => by unfold cT; rw [w1, w2]; rfl)))
  unfold cT
  rw [w1, w2]
  refine Is.bind al (Is.bind i0 ((stepEq eqs ss).trans (Is.ite (fun c => ?_) fun c => ?_)))
  · rw [c, str_apart c fs_.symm, str_apart c sw_]
    refine Is.bind al (Is.bind i3 (Is.bind (within_l ..) ?_))
    simp
  rw [c]
  refine Is.bind al (Is.bind i3 (Is.ite (fun t => ?_) fun t => ?_))
  case refine_2 =>
    rw [(notup t).1, (notup t).2.1]
    simp
  obtain ⟨r, hr⟩ := tupD _ t
  refine Is.bind al (Is.bind i3 ?_)
  have fr := (h _ m3).2 r hr
  rw [hr] at i3 ⊢
  have ar : asT (.tup r) = .ok r := rfl
  refine Is.bind ar (Is.ite (fun a => ?_) fun a => by rw [rowV_t, rowW_t, a]; simp)
  refine Is.ite (fun b => ?_) fun b => by rw [rowV_t, rowW_t, b]; simp
  have hb := of_decide_eq_true b
  refine Is.bind al (Is.bind i0 ((stepEq eqs sf).trans (Is.ite (fun c => ?_) fun c => ?_)))
  · rw [c, str_apart c fw_]
    refine Is.bind al (Is.bind i3 (Is.bind ar ?_))
    rw [compR_map (g := fun x => isWhole x 0 255) (by omega) (fun x _ => by rw [within_l]; rfl)]
    rw [rowV_t, a, b]
    show Res.ok ((r.map fun x => isWhole x 0 255).all id) = _
    rw [List.all_map]
    simp
  rw [c]
  refine Is.bind al (Is.bind i0 ((stepEq eqs sw).trans (Is.ite (fun c => ?_) fun c => by rw [c]; simp)))
  rw [c]
  refine Is.bind al (Is.bind i3 (Is.bind ar ?_))
  rw [compR_map (g := isRuleD) (by omega) (fun x m => by rw [is_rule_d (fr x m)]; rfl)]
  rw [rowW_t, a, b]
  show Res.ok ((r.map isRuleD).all id) = _
  rw [List.all_map]
  simp
theorem told_leaf {l : List D} {r : K_Leaf} (h : leafO l = some r) : m_Leaf__told r = .ok (.tup l) := by
  unfold leafO at h
  by_cases c : (decide ((l.length : Int) = 4) && cT l) = true
  case neg => rw [if_neg c] at h; exact nomatch h
  rw [if_pos c] at h
  unfold cT at c
  simp only [Bool.and_eq_true, decide_eq_true_eq] at c
  have e := len4 (l := l) (by omega)
  by_cases c1 : (isStr (q0 l) "full" && rowV (q3 l)) = true
  · rw [if_pos c1] at h
    cases h
    simp only [Bool.and_eq_true] at c1
    show Res.ok (D.tup [.str "full", .int (toI (q1 l)), .int (toI (q2 l)), q3 l]) = _
    rw [← whole_int c.2.1, ← whole_int c.2.2, ← isstr_eq c1.1, ← e]
  rw [if_neg c1] at h
  by_cases c2 : (isStr (q0 l) "still" && isWhole (q3 l) 1 200) = true
  · rw [if_pos c2] at h
    cases h
    simp only [Bool.and_eq_true] at c2
    show Res.ok (D.tup [.str "still", .int (toI (q1 l)), .int (toI (q2 l)), .int (toI (q3 l))]) = _
    rw [← whole_int c.2.1, ← whole_int c.2.2, ← whole_int c2.2, ← isstr_eq c2.1, ← e]
  rw [if_neg c2] at h
  by_cases c3 : (isStr (q0 l) "woven" && rowW (q3 l)) = true
  · rw [if_pos c3] at h
    cases h
    simp only [Bool.and_eq_true] at c3
    show Res.ok (D.tup [.str "woven", .int (toI (q1 l)), .int (toI (q2 l)), q3 l]) = _
    rw [← whole_int c.2.1, ← whole_int c.2.2, ← isstr_eq c3.1, ← e]
  rw [if_neg c3] at h
  exact nomatch h
theorem lk_t {c : Str} {tab : List (Str × Bool)} {b : Bool} {ds : List (Str × D)} (h : tab.lookup c = some b) : isCR tab (.obj c ds) = .ok b := by
  show (match tab.lookup c with | some b => Res.ok b | none => .stuck) = .ok b
  rw [h]
theorem is_l (r : K_Leaf) : isCR [("Full", true), ("Mixed", false), ("Moved", false), ("Plain", false), ("Still", true), ("Woven", true)] (enc (some r)) = .ok true := by
  cases r <;> exact lk_t (by decide +kernel)
def Ask (d : D) : Prop := (∃ l, d = .tup l ∧ FineL l ∧ eqOk 20 d = true) ∨ isA "tuple" d = false
theorem asked {d : D} (h : Ask d) : l_asked d = .ok true := by
  unfold l_asked
  rcases h with ⟨l, rfl, h, he⟩ | h
  · rw [leaf_l h, is_leaf_l h]
    cases e : leafO l with
    | none =>
      refine Is.bind (a := Fl.nx ((none : Option K_Leaf), true, false)) ?_ ?_
      · show guardR (("NoLeaf" : Str) ∈ (["NoLeaf"] : List Str)) _ = _
        unfold guardR
        rw [if_pos (by simp)]
        rfl
      · rfl
    | some r =>
      have t1 := told_leaf e
      refine Is.bind (a := Fl.nx (some r, false, false)) rfl ?_
      show ((isCR [("Full", true), ("Mixed", false), ("Moved", false), ("Plain", false), ("Still", true), ("Woven", true)] (enc (some r))).bind fun b44 => (if b44 = true then (someR (some r)).bind fun x46 => (m_Leaf__told x46).bind fun x50 => guardR (okEq x50 (.tup l)) <| .ok (eqD x50 (.tup l)) else .ok false)) = .ok true
      rw [is_l]
      show ((m_Leaf__told r).bind fun x50 => guardR (okEq x50 (.tup l)) <| .ok (eqD x50 (.tup l))) = .ok true
      rw [t1]
      show guardR (okEq (.tup l) (.tup l)) (.ok (eqD (.tup l) (.tup l))) = .ok true
      unfold guardR
      rw [if_pos (okEq_of he he)]
      exact congrArg Res.ok (eqD_refl (eqOk_flat _ 20 he).1)
  · have e1 : m_leaf_of d = .err ⟨"NoLeaf", []⟩ := by unfold m_leaf_of; exact Is.iteF h rfl
    have e2 : l_is_leaf d = .ok false := by unfold l_is_leaf; exact Is.iteF h rfl
    rw [e1, e2]
    refine Is.bind (a := Fl.nx ((none : Option K_Leaf), true, false)) ?_ ?_
    · show guardR (("NoLeaf" : Str) ∈ (["NoLeaf"] : List Str)) _ = _
      unfold guardR
      rw [if_pos (by simp)]
      rfl
    · rfl
/-! ## how deep, how wide -/
def G (m : Nat) : Nat → D → Prop
  | 0, d => (∀ n, eqOk n d = true) ∧ isA "tuple" d = false
  | k + 1, d => G m k d ∨ ∃ l, (d = .tup l ∨ d = .lst l) ∧ l.length ≤ m ∧ ∀ x ∈ l, G m k x
theorem G.up {m : Nat} {d : D} : ∀ {k j : Nat}, G m k d → k ≤ j → G m j d
  | k, 0, h, e => by cases Nat.le_zero.mp e; exact h
  | k, j + 1, h, e => by
    by_cases q : k = j + 1
    · subst q; exact h
    · exact .inl (G.up h (by omega))
theorem G.wide {m m' : Nat} (hm : m ≤ m') : ∀ {k : Nat} {d : D}, G m k d → G m' k d
  | 0, d, h => h
  | k + 1, d, .inl h => .inl (G.wide hm h)
  | k + 1, d, .inr ⟨l, e, hl, h⟩ => .inr ⟨l, e, Nat.le_trans hl hm, fun x q => G.wide hm (h x q)⟩
theorem oks_all {n : Nat} : ∀ {l : List D}, (∀ x ∈ l, eqOk n x = true) → eqOks n l = true
  | [], _ => rfl
  | x :: l, h => by
    show (eqOk n x && eqOks n l) = true
    rw [h x List.mem_cons_self, oks_all fun y m => h y (List.mem_cons_of_mem _ m)]
    rfl
theorem G.eq {m : Nat} : ∀ {k : Nat} {d : D}, G m k d → ∀ n, eqOk (n + k) d = true
  | 0, d, h, n => h.1 _
  | k + 1, d, .inl h, n => by rw [show n + (k + 1) = (n + 1) + k by omega]; exact G.eq h _
  | k + 1, d, .inr ⟨l, e, hl, h⟩, n => by
    have := oks_all fun x q => G.eq (h x q) n
    rcases e with rfl | rfl <;> exact this
theorem G.eq20 {m k : Nat} {d : D} (h : G m k d) (hk : k ≤ 20) : eqOk 20 d = true := by
  have := h.eq (20 - k)
  rwa [show 20 - k + k = 20 by omega] at this
theorem G.parts {m : Nat} : ∀ {k : Nat} {l : List D}, G m k (.tup l) → l.length ≤ m ∧ ∀ x ∈ l, G m k x
  | 0, l, h => absurd h.2 (by rw [show isA "tuple" (.tup l) = true from is_tup]; decide)
  | k + 1, l, .inl h => let ⟨a, b⟩ := G.parts h; ⟨a, fun x q => .inl (b x q)⟩
  | k + 1, l, .inr ⟨l2, e, hl, h⟩ => by
    rcases e with e | e
    · cases e; exact ⟨hl, fun x q => .inl (h x q)⟩
    · exact nomatch e
theorem G.fine {m k : Nat} {d : D} (h : G m k d) (hk : k ≤ 20) : Fine d := ⟨h.eq20 hk, fun l e x q => by subst e; exact (h.parts.2 x q).eq20 hk⟩
theorem G.ask {m k : Nat} {d : D} (h : G m k d) (hk : k ≤ 20) : Ask d := by
  by_cases c : isA "tuple" d = true
  · obtain ⟨l, rfl⟩ := tupD d c
    refine .inl ⟨l, rfl, fun x q => ?_, h.eq20 hk⟩
    have hx := h.parts.2 x q
    exact ⟨hx.fine hk, fun r e y z => by subst e; exact (hx.parts.2 y z).fine hk⟩
  · exact .inr (Bool.eq_false_iff.mpr c)
theorem g_int (m k : Nat) (i : Int) : G m k (.int i) := G.up (k := 0) ⟨fun _ => rfl, (by decide +kernel : isS "int" "tuple" = false)⟩ (Nat.zero_le _)
theorem g_str (m k : Nat) {s : Str} (h : PyData.strOk s = true) : G m k (.str s) := G.up (k := 0) ⟨fun n => by cases n <;> exact h, (by decide +kernel : isS "str" "tuple" = false)⟩ (Nat.zero_le _)
theorem g_bl (m k : Nat) (b : Bool) : G m k (.bl b) := G.up (k := 0) ⟨fun _ => rfl, (by decide +kernel : isS "bool" "tuple" = false)⟩ (Nat.zero_le _)
theorem g_non (m k : Nat) : G m k .non := G.up (k := 0) ⟨fun _ => rfl, (by decide +kernel : isS "NoneType" "tuple" = false)⟩ (Nat.zero_le _)
theorem g_tup {m k : Nat} {l : List D} (hl : l.length ≤ m) (h : ∀ x ∈ l, G m k x) : G m (k + 1) (.tup l) := .inr ⟨l, .inl rfl, hl, h⟩
theorem g_lst {m k : Nat} {l : List D} (hl : l.length ≤ m) (h : ∀ x ∈ l, G m k x) : G m (k + 1) (.lst l) := .inr ⟨l, .inr rfl, hl, h⟩
theorem all_nil {p : D → Prop} : ∀ x ∈ ([] : List D), p x := fun _ m => nomatch m
theorem all_cons {p : D → Prop} {a : D} {l : List D} (h : p a) (t : ∀ x ∈ l, p x) : ∀ x ∈ a :: l, p x := fun x m => by
  rcases List.mem_cons.mp m with rfl | m
  · exact h
  · exact t x m
theorem all_app {p : D → Prop} {l l2 : List D} (h : ∀ x ∈ l, p x) (h' : ∀ x ∈ l2, p x) : ∀ x ∈ l ++ l2, p x := fun x q => (List.mem_append.mp q).elim (h x) (h' x)
theorem all_cut {p : D → Prop} {l : List D} {lo hi : Option Int} (h : ∀ x ∈ l, p x) : ∀ x ∈ cutL l lo hi, p x := fun x m => h x (cutL_mem m)
section
variable {α β : Type} {k : List D → Res β} {ψ : β → Prop} {l : List D}
theorem okT (h : Ok (k l) ψ) : Ok ((asT (.tup l)).bind k) ψ := h
theorem okTm (h : Ok (k l) ψ) : Ok ((asT (.tup (l.map enc))).bind k) ψ := by rw [enc_Ds]; exact h
end
theorem number_ok {st : List Int} (h : st.length = 3) : Ok (l_odd_number st) fun r => G 1 1 r.1 ∧ r.2.length = 3 := by
  unfold l_odd_number
  refine dw h (by decide) (by decide) fun x1 s1 a1 b1 h1 => Ok.ite (fun c => ?_) fun _ => ?_
  · have c' := of_decide_eq_true c
    refine Ok.ixm a1 (show x1 < 15 from c') fun z m => Ok.pure ⟨?_, h1⟩
    simp only [List.mem_cons, List.not_mem_nil, or_false] at m
    rcases m with rfl | rfl | rfl | rfl | rfl | rfl | rfl | rfl | rfl | rfl | rfl | rfl | rfl | rfl | rfl
    · exact g_int _ _ _
    · exact g_int _ _ _
    · exact g_int _ _ _
    · exact g_int _ _ _
    · exact g_int _ _ _
    · exact g_int _ _ _
    · exact g_int _ _ _
    · exact g_bl _ _ _
    · exact g_bl _ _ _
    · exact g_non _ _
    · exact g_str _ _ (by decide +kernel)
    · exact g_tup (by decide) (all_cons (g_int _ _ _) all_nil)
    · exact g_int _ _ _
    · exact g_int _ _ _
    · exact g_int _ _ _
  · exact dw h1 (by decide) (by decide) fun x2 s2 a2 b2 h2 => Ok.pure ⟨g_int _ _ _, h2⟩
theorem part_ok {st : List Int} (h : st.length = 3) : Ok (l_odd_part st) fun r => G 4 2 r.1 ∧ r.2.length = 3 := by
  unfold l_odd_part
  refine dw h (by decide) (by decide) fun x1 s1 a1 b1 h1 => Ok.ite (fun c => ?_) fun _ => ?_
  · have c' := of_decide_eq_true c
    refine Ok.ixm a1 (show x1 < 9 from c') fun z m => Ok.pure ⟨?_, h1⟩
    simp only [List.mem_cons, List.not_mem_nil, or_false] at m
    rcases m with rfl | rfl | rfl | rfl | rfl | rfl | rfl | rfl | rfl
    · exact g_str _ _ (by decide +kernel)
    · exact g_str _ _ (by decide +kernel)
    · exact g_str _ _ (by decide +kernel)
    · exact g_str _ _ (by decide +kernel)
    · exact g_tup (by decide) all_nil
    · exact g_lst (l := [.int 1]) (by decide) (all_cons (g_int _ _ _) all_nil)
    · exact g_tup (l := [.str "plain", .int 256]) (by decide) (all_cons (g_str _ _ sp1) (all_cons (g_int _ _ _) all_nil))
    · exact g_tup (l := [.tup [.str "plain", .int 7]]) (by decide) (all_cons (g_tup (by decide) (all_cons (g_str _ _ sp1) (all_cons (g_int _ _ _) all_nil))) all_nil)
    · exact g_tup (l := [.str "moved", .int 1, .int 0, .int 0]) (by decide) (all_cons (g_str _ _ sp2) (all_cons (g_int _ _ _) (all_cons (g_int _ _ _) (all_cons (g_int _ _ _) all_nil))))
  · exact Ok.bind (number_ok h1) fun ⟨d, s⟩ ⟨a, b⟩ => Ok.pure ⟨(a.wide (by decide)).up (by decide), b⟩
theorem changed_ok {m : Nat} (hm : 4 ≤ m) (hm2 : m ≤ 1000) : ∀ (k n : Nat) (l : List D) (st : List Int), k ≤ n → k ≤ 20 → st.length = 3 → G m k (.tup l) → Ok (l_changed_r n st (.tup l)) fun r => (∃ q, r.1 = .tup q ∧ G (2 * m + 1) (k + 2) (.tup q)) ∧ r.2.length = 3
  | 0, n, l, st, _, _, _, h => absurd h.2 (by rw [show isA "tuple" (.tup l) = true from is_tup]; decide)
  | k + 1, 0, l, st, hk, _, _, _ => absurd hk (by omega)
  | k + 1, n + 1, l, st, hk, hk2, hst, hg => by
    rcases hg with hg | ⟨l2, e, hl, hx⟩
    · refine Ok.mono (changed_ok hm hm2 k (n + 1) l st (by omega) (by omega) hst hg) fun r ⟨⟨q, e, g⟩, b⟩ => ⟨⟨q, e, g.up (by omega)⟩, b⟩
    rcases e with e | e
    case inr => exact nomatch e
    cases e
    have hu : ∀ x ∈ l, G (2 * m + 1) (k + 2) x := fun x q => ((hx x q).wide (by omega)).up (by omega)
    have cl : ∀ lo hi, (cutL l lo hi).length ≤ m := fun lo hi => Nat.le_trans cutL_len hl
    have one : ∀ {o : D} {lo hi lo2 hi2 : Option Int}, G (2 * m + 1) (k + 2) o → G (2 * m + 1) (k + 1 + 2) (.tup ((cutL l lo hi ++ [o]) ++ cutL l lo2 hi2)) := fun {o lo hi lo2 hi2} ho => by
      have c1 := cl lo hi
      have c2 := cl lo2 hi2
      refine g_tup (k := k + 2) ?_ (all_app (all_app (all_cut hu) (all_cons ho all_nil)) (all_cut hu))
      simp only [List.length_append, List.length_cons, List.length_nil]
      omega
    have len1 : ∀ {o : D} {lo hi : Option Int}, (cutL l lo hi).length + [o].length ≤ 1000000 := fun {o lo hi} => by
      have := cl lo hi
      show _ + 1 ≤ _
      omega
    have len2 : ∀ {o : D} {lo hi lo2 hi2 : Option Int}, (cutL l lo hi ++ [o]).length + (cutL l lo2 hi2).length ≤ 1000000 := fun {o lo hi lo2 hi2} => by
      have c1 := cl lo hi
      have c2 := cl lo2 hi2
      rw [List.length_append]
      show _ + 1 + _ ≤ _
      omega
    unfold l_changed_r
    refine dw hst (by decide) (by decide) fun x1 s1 a1 b1 h1 => dw h1 (by decide) (by decide) fun x2 s2 a2 b2 h2 => ?_
    dsimp only
    refine Ok.ite (fun _ => ?_) fun _ => ?_
    · refine okT (Ok.guard (by omega) (Ok.lt (okT (Ok.bind (number_ok h2) fun ⟨o, s3⟩ ⟨ho, h3⟩ => ?_))))
      refine okTm (okT (l := [o]) (Ok.guard len1 (okT (okTm (okTm (Ok.guard len2 (Ok.pure ⟨⟨_, by rw [enc_Ds], one ((ho.wide (by omega)).up (by omega))⟩, h3⟩)))))))
    refine Ok.guard (okEq_of (G.eq20 (m := m) (k := k + 1) (g_tup hl hx) (by omega)) rfl) (Ok.ite (fun _ => Ok.pure ⟨⟨[.tup []], rfl, g_tup (k := k + 2) (by show 1 ≤ _; omega) (all_cons (G.up (k := 1) (g_tup (by simp) all_nil) (by omega)) all_nil)⟩, h2⟩) fun e => ?_)
    have hn : 0 < l.length := by
      cases l with
      | nil => exact nomatch e
      | cons x l => simp
    refine okT (Ok.guard (by omega) (Ok.lt ?_))
    have hp0 : 0 ≤ x2 % (l.length : Int) := Int.emod_nonneg _ (by omega)
    have hp1 : x2 % (l.length : Int) < (l.length : Int) := Int.emod_lt_of_pos _ (by omega)
    refine Ok.ite (fun _ => ?_) fun _ => ?_
    · refine okT (okT (okTm (okTm (Ok.guard ?_ (Ok.pure ⟨⟨_, by rw [enc_Ds], g_tup (k := k + 2) ?_ (all_app (all_cut hu) (all_cut hu))⟩, h2⟩)))))
      · have c1 := cl none (some (x2 % (l.length : Int)))
        have c2 := cl (some (x2 % (l.length : Int) + 1)) none
        omega
      · have c1 := cl none (some (x2 % (l.length : Int)))
        have c2 := cl (some (x2 % (l.length : Int) + 1)) none
        rw [List.length_append]
        omega
    refine Ok.ite (fun _ => ?_) fun _ => ?_
    · refine okT (Ok.bind (part_ok h2) fun ⟨o, s3⟩ ⟨ho, h3⟩ => ?_)
      exact okTm (okT (l := [o]) (Ok.guard len1 (okT (okTm (okTm (Ok.guard len2 (Ok.pure ⟨⟨_, by rw [enc_Ds], one ((ho.wide (by omega)).up (by omega))⟩, h3⟩)))))))
    refine okT (Ok.ix hp0 hp1 fun x mx ex => ?_)
    have ex2 : ixR l (x2 % (l.length : Int)) = .ok x := ix_at hp0 ex
    refine Ok.ite (fun t => ?_) fun _ => ?_
    · obtain ⟨r, rfl⟩ := tupD x t
      have hr := hx _ mx
      refine Ok.ite (fun _ => ?_) fun _ => ?_
      · have gl : G (2 * m + 1) (k + 2) (.lst r) := by
          have ⟨p1, p2⟩ := hr.parts
          exact g_lst (k := k + 1) (by omega) fun y q => ((p2 y q).wide (by omega)).up (by omega)
        have e3 : (enc (⟨r⟩ : Tp1 (List D)) : D) = .tup [.lst r] := by
          show D.tup [D.lst (r.map enc)] = _
          rw [enc_Ds]
        refine okT (okT (Ok.bindE ex2 (okT (okTm ?_))))
        rw [e3]
        exact okT (Ok.guard len1 (okT (okTm (okTm (Ok.guard len2 (Ok.pure ⟨⟨_, by rw [enc_Ds], one gl⟩, h2⟩))))))
      · refine okT (okT (Ok.bindE ex2 (Ok.bind (changed_ok hm hm2 k n r s2 (by omega) (by omega) h2 hr) ?_)))
        rintro ⟨_, s3⟩ ⟨⟨q, rfl, hq⟩, h3⟩
        exact okTm (okT (l := [.tup q]) (Ok.guard len1 (okT (okTm (okTm (Ok.guard len2 (Ok.pure ⟨⟨_, by rw [enc_Ds], one hq⟩, h3⟩)))))))
    · refine okT (Ok.bind (number_ok h2) fun ⟨o, s3⟩ ⟨ho, h3⟩ => ?_)
      exact okTm (okT (l := [o]) (Ok.guard len1 (okT (okTm (okTm (Ok.guard len2 (Ok.pure ⟨⟨_, by rw [enc_Ds], one ((ho.wide (by omega)).up (by omega))⟩, h3⟩)))))))
theorem rule_ok {st : List Int} (h : st.length = 3) : Ok (l_rule st) fun r => G 5 1 r.1 ∧ r.2.length = 3 := by
  unfold l_rule
  refine dw h (by decide) (by decide) fun x1 s1 a1 b1 h1 => Ok.ite (fun _ => ?_) fun _ => ?_
  · exact dw h1 (by decide) (by decide) fun x2 s2 a2 b2 h2 => Ok.pure ⟨g_tup (l := [.str "plain", .int x2]) (by show 2 ≤ 5; decide) (all_cons (g_str _ _ sp1) (all_cons (g_int _ _ _) all_nil)), h2⟩
  refine dw h1 (by decide) (by decide) fun x2 s2 a2 b2 h2 => Ok.lt (dw h2 (by decide) (by decide) fun x3 s3 a3 b3 h3 => Ok.ite (fun _ => ?_) fun _ => ?_)
  · exact dw h3 (by decide) (by decide) fun x4 s4 a4 b4 h4 => Ok.pure ⟨g_tup (l := [.str "moved", .int (1 + x2), .int x3, .int x4]) (by show 4 ≤ 5; decide) (all_cons (g_str _ _ sp2) (all_cons (g_int _ _ _) (all_cons (g_int _ _ _) (all_cons (g_int _ _ _) all_nil)))), h4⟩
  · exact dw h3 (by decide) (by decide) fun x4 s4 a4 b4 h4 => dw h4 (by decide) (by decide) fun x5 s5 a5 b5 h5 => Ok.pure ⟨g_tup (l := [.str "mixed", .int (1 + x2), .int x3, .int (1 + x4), .int x5]) (by show 5 ≤ 5; decide) (all_cons (g_str _ _ sp3) (all_cons (g_int _ _ _) (all_cons (g_int _ _ _) (all_cons (g_int _ _ _) (all_cons (g_int _ _ _) all_nil))))), h5⟩
theorem g_four {m k : Nat} (hm : 4 ≤ m) {s : Str} (hs : PyData.strOk s = true) {b c : Int} {d : D} (h : G m k d) : G m (k + 1) (.tup [.str s, .int b, .int c, d]) := g_tup (by show 4 ≤ m; exact hm) (all_cons (g_str _ _ hs) (all_cons (g_int _ _ _) (all_cons (g_int _ _ _) (all_cons h all_nil))))
theorem leaf_ok {st : List Int} (h : st.length = 3) : Ok (l_leaf st) fun r => ∃ l, r.1 = .tup l ∧ G 17 3 (.tup l) := by
  unfold l_leaf
  refine dw h (by decide) (by decide) fun x1 s1 a1 b1 h1 => dw h1 (by decide) (by decide) fun x2 s2 a2 b2 h2 => Ok.lt ?_
  refine Ok.bind (φ := fun r => (1 ≤ r.1 ∧ r.1 ≤ 17) ∧ r.2.length = 3) (dw h2 (by decide) (by decide) fun x3 s3 a3 b3 h3 => Ok.ite (fun _ => Ok.pure ⟨⟨by simp only; omega, by simp only; omega⟩, h3⟩) fun _ => Ok.pure ⟨⟨by simp only; omega, by simp only; omega⟩, h3⟩) ?_
  rintro ⟨w, s3⟩ ⟨⟨w0, w1⟩, h3⟩
  simp only at w0 w1 h3
  refine dw h3 (by decide) (by decide) fun x4 s4 a4 b4 h4 => dw h4 (by decide) (by decide) fun x5 s5 a5 b5 h5 => Ok.lt (Ok.ite (fun _ => Ok.guard (by simp only; omega) ?_) fun _ => Ok.ite (fun _ => ?_) fun _ => Ok.guard (by simp only; omega) ?_)
  · refine Ok.bind (Ok.compAll (by rw [rng_len]; simp only; omega) (fun s => s.length = 3) (fun _ => True) (fun x s m hs => dw hs (by decide) (by decide) fun y s' a b h' => Ok.pure ⟨h', y, rfl, trivial⟩) h5) ?_
    rintro ⟨vs, s6⟩ ⟨_, hv, hl⟩
    simp only at hl
    rw [rng_len] at hl
    refine Ok.pure ⟨_, rfl, g_four (by decide) sf (G.up (k := 1) (g_tup (l := vs.map enc) (by rw [List.length_map]; omega) fun x m => ?_) (by decide))⟩
    obtain ⟨i, _, rfl⟩ := List.mem_map.mp m
    exact g_int _ _ _
  · exact dw h5 (by decide) (by decide) fun x6 s6 a6 b6 h6 => Ok.pure ⟨_, rfl, g_four (by decide) ss (g_int _ _ _)⟩
  · refine Ok.bind (Ok.compAll (by rw [rng_len]; simp only; omega) (fun s => s.length = 3) (fun d => G 5 1 d) (fun x s m hs => Ok.bind (rule_ok hs) fun ⟨d, s'⟩ ⟨p, h'⟩ => Ok.pure ⟨h', d, rfl, p⟩) h5) ?_
    rintro ⟨ds, s6⟩ ⟨_, hv, hl⟩
    simp only at hv hl
    rw [rng_len] at hl
    refine Ok.pure ⟨_, rfl, g_four (by decide) sw (g_tup (l := ds.map enc) (by rw [List.length_map]; omega) fun x m => ?_)⟩
    rw [enc_Ds] at m
    exact (hv x m).wide (by decide)
theorem thing_ok {st : List Int} {l : List D} (h : st.length = 3) (hg : G 17 3 (.tup l)) : Ok (l_thing st (.tup l)) fun r => Ask r.1 := by
  unfold l_thing
  refine dw h (by decide) (by decide) fun x1 s1 a1 b1 h1 => Ok.ite (fun c => ?_) fun _ => Ok.bindE (a := l) rfl (Ok.pure (.inr (by decide +kernel : isS "list" "tuple" = false)))
  have c' := of_decide_eq_true c
  refine Ok.ixm a1 (show x1 < 10 from c') fun z m => Ok.pure ?_
  simp only [List.mem_cons, List.not_mem_nil, or_false] at m
  rcases m with rfl | rfl | rfl | rfl | rfl | rfl | rfl | rfl | rfl | rfl
  · exact .inr (by decide +kernel : isS "NoneType" "tuple" = false)
  · exact .inr (by decide +kernel : isS "int" "tuple" = false)
  · exact .inr (by decide +kernel : isS "str" "tuple" = false)
  · exact .inr (by decide +kernel : isS "bool" "tuple" = false)
  · exact .inr (by decide +kernel : isS "dict" "tuple" = false)
  · exact .inr (by decide +kernel : isS "str" "tuple" = false)
  · exact .inr (by decide +kernel : isS "list" "tuple" = false)
  · exact .inr (by decide +kernel : isS "dict" "tuple" = false)
  · exact (g_tup (l := [.tup l]) (m := 17) (k := 3) (by show 1 ≤ 17; decide) (all_cons hg all_nil)).ask (by decide)
  · exact (g_tup (l := [.tup [], .tup [], .tup [], .tup []]) (m := 17) (k := 1) (by decide) (by
      have e : G 17 1 (.tup []) := g_tup (by decide) all_nil
      exact all_cons e (all_cons e (all_cons e (all_cons e all_nil))))).ask (by decide)
theorem law_ok (ns : List Int) (h : ns.length ≤ 63) : m_law ns = .ok true := by
  have q : Ok (m_law ns) fun r => r = true := by
    unfold m_law
    refine Ok.bind (well_ok (by decide)) fun w0 hw0 => Ok.bind (leaf_ok hw0) ?_
    rintro ⟨_, s0⟩ ⟨l, rfl, hg⟩
    refine Ok.bind (well_ok (by decide)) fun w1 hw1 => dw hw1 (by decide) (by decide) fun x1 s1 a1 b1 h1 => dw h1 (by decide) (by decide) fun x2 s2 a2 b2 h2 => Ok.lt (Ok.ite (fun _ => ?_) fun _ => ?_)
    · exact Ok.bind (thing_ok h2 hg) fun ⟨d, s3⟩ hd => Ok.bindE (asked hd) (Ok.iteT rfl (Ok.bindE (asked (hg.ask (by decide))) (Ok.pure rfl)))
    refine Ok.bind (changed_ok (by decide) (by decide) 3 9 l s2 (by decide) (by decide) h2 hg) ?_
    rintro ⟨_, s3⟩ ⟨⟨r1, rfl, hr⟩, h3⟩
    refine Ok.bind (φ := fun r => Ask r.1) (Ok.ite (fun _ => Ok.bind (changed_ok (by decide) (by decide) 5 9 r1 s3 (by decide) (by decide) h3 hr) ?_) fun _ => Ok.pure (hr.ask (by decide))) fun a ha => ?_
    · rintro ⟨_, s4⟩ ⟨⟨r2, rfl, hr2⟩, h4⟩
      exact Ok.pure (hr2.ask (by decide))
    exact Ok.bindE (asked ha) (Ok.iteT rfl (Ok.bindE (asked (hg.ask (by decide))) (Ok.iteT rfl (Ok.bindE (a := l) rfl (Ok.bindE (asked (.inr (by decide +kernel : isS "list" "tuple" = false))) (Ok.iteT rfl (Ok.bindE (asked ha) (Ok.pure rfl))))))))
  obtain ⟨a, e, rfl⟩ := q
  exact e
end A

set_option Elab.async false
set_option linter.all false
set_option maxRecDepth 100000
set_option maxHeartbeats 4000000
namespace A
open PySem PySem.Spec PyProof.Rows L2 Y
open Y.Enc (enc)
theorem all_mk {l : PySem.W.OpenLaw} {w : World} {K : PySem.W.Frag} {h : Heap} {mg : Str → Option Value} {fa : Addr} (X : K.In h) (G : h.Ns mainGlobals mg) (hfa : mg "law" = some (.ref fa))
    {C_Plain : Addr}
    (kca_Plain : PySem.W.nsIn K mainGlobals "Plain" = some (some (.ref C_Plain)))
    (kcpg_Plain : PySem.W.plainGet K C_Plain Str.empty = true)
    (kchd_Plain : PySem.W.hasDictIn K C_Plain = true)
    (kcpo_Plain : PySem.W.plainOver K C_Plain = true)
    (kcsa_Plain : PySem.W.findIn K (.ref C_Plain) "__setattr__" = some (some (.builtin "object.__setattr__")))
    (kcha_Plain : PySem.W.findIn K (.ref C_Plain) "__class__" = some (some (.builtin "object.__class__")))
    (kchm_Plain : PySem.W.mroIn K C_Plain (.type "object") = some true)
    (kcty_Plain : PySem.W.typeIn K (.ref C_Plain) = some (.type "type"))
    (kcis_Plain : PySem.W.isClsIn K C_Plain = true)
    (kcself_Plain : PySem.W.subIn K (.ref C_Plain) (.ref C_Plain) = some true)
    (kctbool_Plain : PySem.W.subIn K (.ref C_Plain) (.type "bool") = some false)
    (kctint_Plain : PySem.W.subIn K (.ref C_Plain) (.type "int") = some false)
    (kctstr_Plain : PySem.W.subIn K (.ref C_Plain) (.type "str") = some false)
    (kctlist_Plain : PySem.W.subIn K (.ref C_Plain) (.type "list") = some false)
    (kcttuple_Plain : PySem.W.subIn K (.ref C_Plain) (.type "tuple") = some false)
    (kctdict_Plain : PySem.W.subIn K (.ref C_Plain) (.type "dict") = some false)
    (kcmk_Plain : PySem.W.makesIn K C_Plain = true)
    (kckp_Plain : PySem.W.keepIn K (.ref C_Plain) = true)
    {C_Moved : Addr}
    (kca_Moved : PySem.W.nsIn K mainGlobals "Moved" = some (some (.ref C_Moved)))
    (kcpg_Moved : PySem.W.plainGet K C_Moved Str.empty = true)
    (kchd_Moved : PySem.W.hasDictIn K C_Moved = true)
    (kcpo_Moved : PySem.W.plainOver K C_Moved = true)
    (kcsa_Moved : PySem.W.findIn K (.ref C_Moved) "__setattr__" = some (some (.builtin "object.__setattr__")))
    (kcha_Moved : PySem.W.findIn K (.ref C_Moved) "__class__" = some (some (.builtin "object.__class__")))
    (kchm_Moved : PySem.W.mroIn K C_Moved (.type "object") = some true)
    (kcty_Moved : PySem.W.typeIn K (.ref C_Moved) = some (.type "type"))
    (kcis_Moved : PySem.W.isClsIn K C_Moved = true)
    (kcself_Moved : PySem.W.subIn K (.ref C_Moved) (.ref C_Moved) = some true)
    (kctbool_Moved : PySem.W.subIn K (.ref C_Moved) (.type "bool") = some false)
    (kctint_Moved : PySem.W.subIn K (.ref C_Moved) (.type "int") = some false)
    (kctstr_Moved : PySem.W.subIn K (.ref C_Moved) (.type "str") = some false)
    (kctlist_Moved : PySem.W.subIn K (.ref C_Moved) (.type "list") = some false)
    (kcttuple_Moved : PySem.W.subIn K (.ref C_Moved) (.type "tuple") = some false)
    (kctdict_Moved : PySem.W.subIn K (.ref C_Moved) (.type "dict") = some false)
    (kcmk_Moved : PySem.W.makesIn K C_Moved = true)
    (kckp_Moved : PySem.W.keepIn K (.ref C_Moved) = true)
    {C_Mixed : Addr}
    (kca_Mixed : PySem.W.nsIn K mainGlobals "Mixed" = some (some (.ref C_Mixed)))
    (kcpg_Mixed : PySem.W.plainGet K C_Mixed Str.empty = true)
    (kchd_Mixed : PySem.W.hasDictIn K C_Mixed = true)
    (kcpo_Mixed : PySem.W.plainOver K C_Mixed = true)
    (kcsa_Mixed : PySem.W.findIn K (.ref C_Mixed) "__setattr__" = some (some (.builtin "object.__setattr__")))
    (kcha_Mixed : PySem.W.findIn K (.ref C_Mixed) "__class__" = some (some (.builtin "object.__class__")))
    (kchm_Mixed : PySem.W.mroIn K C_Mixed (.type "object") = some true)
    (kcty_Mixed : PySem.W.typeIn K (.ref C_Mixed) = some (.type "type"))
    (kcis_Mixed : PySem.W.isClsIn K C_Mixed = true)
    (kcself_Mixed : PySem.W.subIn K (.ref C_Mixed) (.ref C_Mixed) = some true)
    (kctbool_Mixed : PySem.W.subIn K (.ref C_Mixed) (.type "bool") = some false)
    (kctint_Mixed : PySem.W.subIn K (.ref C_Mixed) (.type "int") = some false)
    (kctstr_Mixed : PySem.W.subIn K (.ref C_Mixed) (.type "str") = some false)
    (kctlist_Mixed : PySem.W.subIn K (.ref C_Mixed) (.type "list") = some false)
    (kcttuple_Mixed : PySem.W.subIn K (.ref C_Mixed) (.type "tuple") = some false)
    (kctdict_Mixed : PySem.W.subIn K (.ref C_Mixed) (.type "dict") = some false)
    (kcmk_Mixed : PySem.W.makesIn K C_Mixed = true)
    (kckp_Mixed : PySem.W.keepIn K (.ref C_Mixed) = true)
    {C_Leaf : Addr}
    (kca_Leaf : PySem.W.nsIn K mainGlobals "Leaf" = some (some (.ref C_Leaf)))
    (kcpg_Leaf : PySem.W.plainGet K C_Leaf Str.empty = true)
    (kchd_Leaf : PySem.W.hasDictIn K C_Leaf = true)
    (kcpo_Leaf : PySem.W.plainOver K C_Leaf = true)
    (kcsa_Leaf : PySem.W.findIn K (.ref C_Leaf) "__setattr__" = some (some (.builtin "object.__setattr__")))
    (kcha_Leaf : PySem.W.findIn K (.ref C_Leaf) "__class__" = some (some (.builtin "object.__class__")))
    (kchm_Leaf : PySem.W.mroIn K C_Leaf (.type "object") = some true)
    (kcty_Leaf : PySem.W.typeIn K (.ref C_Leaf) = some (.type "type"))
    (kcis_Leaf : PySem.W.isClsIn K C_Leaf = true)
    (kcself_Leaf : PySem.W.subIn K (.ref C_Leaf) (.ref C_Leaf) = some true)
    (kctbool_Leaf : PySem.W.subIn K (.ref C_Leaf) (.type "bool") = some false)
    (kctint_Leaf : PySem.W.subIn K (.ref C_Leaf) (.type "int") = some false)
    (kctstr_Leaf : PySem.W.subIn K (.ref C_Leaf) (.type "str") = some false)
    (kctlist_Leaf : PySem.W.subIn K (.ref C_Leaf) (.type "list") = some false)
    (kcttuple_Leaf : PySem.W.subIn K (.ref C_Leaf) (.type "tuple") = some false)
    (kctdict_Leaf : PySem.W.subIn K (.ref C_Leaf) (.type "dict") = some false)
    {C_Full : Addr}
    (kca_Full : PySem.W.nsIn K mainGlobals "Full" = some (some (.ref C_Full)))
    (kcpg_Full : PySem.W.plainGet K C_Full Str.empty = true)
    (kchd_Full : PySem.W.hasDictIn K C_Full = true)
    (kcpo_Full : PySem.W.plainOver K C_Full = true)
    (kcsa_Full : PySem.W.findIn K (.ref C_Full) "__setattr__" = some (some (.builtin "object.__setattr__")))
    (kcha_Full : PySem.W.findIn K (.ref C_Full) "__class__" = some (some (.builtin "object.__class__")))
    (kchm_Full : PySem.W.mroIn K C_Full (.type "object") = some true)
    (kcty_Full : PySem.W.typeIn K (.ref C_Full) = some (.type "type"))
    (kcis_Full : PySem.W.isClsIn K C_Full = true)
    (kcself_Full : PySem.W.subIn K (.ref C_Full) (.ref C_Full) = some true)
    (kctbool_Full : PySem.W.subIn K (.ref C_Full) (.type "bool") = some false)
    (kctint_Full : PySem.W.subIn K (.ref C_Full) (.type "int") = some false)
    (kctstr_Full : PySem.W.subIn K (.ref C_Full) (.type "str") = some false)
    (kctlist_Full : PySem.W.subIn K (.ref C_Full) (.type "list") = some false)
    (kcttuple_Full : PySem.W.subIn K (.ref C_Full) (.type "tuple") = some false)
    (kctdict_Full : PySem.W.subIn K (.ref C_Full) (.type "dict") = some false)
    (kcmk_Full : PySem.W.makesIn K C_Full = true)
    (kckp_Full : PySem.W.keepIn K (.ref C_Full) = true)
    {C_Still : Addr}
    (kca_Still : PySem.W.nsIn K mainGlobals "Still" = some (some (.ref C_Still)))
    (kcpg_Still : PySem.W.plainGet K C_Still Str.empty = true)
    (kchd_Still : PySem.W.hasDictIn K C_Still = true)
    (kcpo_Still : PySem.W.plainOver K C_Still = true)
    (kcsa_Still : PySem.W.findIn K (.ref C_Still) "__setattr__" = some (some (.builtin "object.__setattr__")))
    (kcha_Still : PySem.W.findIn K (.ref C_Still) "__class__" = some (some (.builtin "object.__class__")))
    (kchm_Still : PySem.W.mroIn K C_Still (.type "object") = some true)
    (kcty_Still : PySem.W.typeIn K (.ref C_Still) = some (.type "type"))
    (kcis_Still : PySem.W.isClsIn K C_Still = true)
    (kcself_Still : PySem.W.subIn K (.ref C_Still) (.ref C_Still) = some true)
    (kctbool_Still : PySem.W.subIn K (.ref C_Still) (.type "bool") = some false)
    (kctint_Still : PySem.W.subIn K (.ref C_Still) (.type "int") = some false)
    (kctstr_Still : PySem.W.subIn K (.ref C_Still) (.type "str") = some false)
    (kctlist_Still : PySem.W.subIn K (.ref C_Still) (.type "list") = some false)
    (kcttuple_Still : PySem.W.subIn K (.ref C_Still) (.type "tuple") = some false)
    (kctdict_Still : PySem.W.subIn K (.ref C_Still) (.type "dict") = some false)
    (kcmk_Still : PySem.W.makesIn K C_Still = true)
    (kckp_Still : PySem.W.keepIn K (.ref C_Still) = true)
    {C_Woven : Addr}
    (kca_Woven : PySem.W.nsIn K mainGlobals "Woven" = some (some (.ref C_Woven)))
    (kcpg_Woven : PySem.W.plainGet K C_Woven Str.empty = true)
    (kchd_Woven : PySem.W.hasDictIn K C_Woven = true)
    (kcpo_Woven : PySem.W.plainOver K C_Woven = true)
    (kcsa_Woven : PySem.W.findIn K (.ref C_Woven) "__setattr__" = some (some (.builtin "object.__setattr__")))
    (kcha_Woven : PySem.W.findIn K (.ref C_Woven) "__class__" = some (some (.builtin "object.__class__")))
    (kchm_Woven : PySem.W.mroIn K C_Woven (.type "object") = some true)
    (kcty_Woven : PySem.W.typeIn K (.ref C_Woven) = some (.type "type"))
    (kcis_Woven : PySem.W.isClsIn K C_Woven = true)
    (kcself_Woven : PySem.W.subIn K (.ref C_Woven) (.ref C_Woven) = some true)
    (kctbool_Woven : PySem.W.subIn K (.ref C_Woven) (.type "bool") = some false)
    (kctint_Woven : PySem.W.subIn K (.ref C_Woven) (.type "int") = some false)
    (kctstr_Woven : PySem.W.subIn K (.ref C_Woven) (.type "str") = some false)
    (kctlist_Woven : PySem.W.subIn K (.ref C_Woven) (.type "list") = some false)
    (kcttuple_Woven : PySem.W.subIn K (.ref C_Woven) (.type "tuple") = some false)
    (kctdict_Woven : PySem.W.subIn K (.ref C_Woven) (.type "dict") = some false)
    (kcmk_Woven : PySem.W.makesIn K C_Woven = true)
    (kckp_Woven : PySem.W.keepIn K (.ref C_Woven) = true)
    (n_Full_begin : PySem.W.findIn K (.ref C_Full) "begin" = some none)
    (n_Full_span : PySem.W.findIn K (.ref C_Full) "span" = some none)
    (n_Full_worths : PySem.W.findIn K (.ref C_Full) "worths" = some none)
    (n_Still_begin : PySem.W.findIn K (.ref C_Still) "begin" = some none)
    (n_Still_span : PySem.W.findIn K (.ref C_Still) "span" = some none)
    (n_Still_back : PySem.W.findIn K (.ref C_Still) "back" = some none)
    (n_Woven_begin : PySem.W.findIn K (.ref C_Woven) "begin" = some none)
    (n_Woven_span : PySem.W.findIn K (.ref C_Woven) "span" = some none)
    (n_Woven_rules : PySem.W.findIn K (.ref C_Woven) "rules" = some none)
    (n_Plain_worth : PySem.W.findIn K (.ref C_Plain) "worth" = some none)
    (n_Moved_back : PySem.W.findIn K (.ref C_Moved) "back" = some none)
    (n_Moved_cell : PySem.W.findIn K (.ref C_Moved) "cell" = some none)
    (n_Moved_add : PySem.W.findIn K (.ref C_Moved) "add" = some none)
    (n_Mixed_back : PySem.W.findIn K (.ref C_Mixed) "back" = some none)
    (n_Mixed_cell : PySem.W.findIn K (.ref C_Mixed) "cell" = some none)
    (n_Mixed_other_back : PySem.W.findIn K (.ref C_Mixed) "other_back" = some none)
    (n_Mixed_other_cell : PySem.W.findIn K (.ref C_Mixed) "other_cell" = some none)
    (p_Woven_Leaf : PySem.W.subIn K (.ref C_Woven) (.ref C_Leaf) = some true)
    (p_Still_Leaf : PySem.W.subIn K (.ref C_Still) (.ref C_Leaf) = some true)
    (p_Plain_Leaf : PySem.W.subIn K (.ref C_Plain) (.ref C_Leaf) = some false)
    (p_Moved_Leaf : PySem.W.subIn K (.ref C_Moved) (.ref C_Leaf) = some false)
    (p_Mixed_Leaf : PySem.W.subIn K (.ref C_Mixed) (.ref C_Leaf) = some false)
    (p_Full_Leaf : PySem.W.subIn K (.ref C_Full) (.ref C_Leaf) = some true)
    {f_is_whole : Addr} {od_is_whole an_is_whole : Option Addr} {sl_is_whole : Array (Option Value)} {oc_is_whole kV_is_whole dc_is_whole pm_is_whole cd_is_whole ct_is_whole : Value}
    (a_is_whole : PySem.W.nsIn K mainGlobals "is_whole" = some (some (.ref f_is_whole))) (l_is_whole : K.lookup f_is_whole = some ⟨oc_is_whole, od_is_whole, .func (PySem.W.fnOf "is_whole" "is_whole" (defArgs s_is_whole) (defBody s_is_whole) (defScope s_is_whole) .none kV_is_whole dc_is_whole pm_is_whole an_is_whole cd_is_whole ct_is_whole), sl_is_whole⟩) (c_is_whole : PySem.W.codeIn K cd_is_whole "is_whole" = true) (k_is_whole : PySem.W.keepIn K (.ref f_is_whole) = true)
    {f_is_need : Addr} {od_is_need an_is_need : Option Addr} {sl_is_need : Array (Option Value)} {oc_is_need kV_is_need dc_is_need pm_is_need cd_is_need ct_is_need : Value}
    (a_is_need : PySem.W.nsIn K mainGlobals "is_need" = some (some (.ref f_is_need))) (l_is_need : K.lookup f_is_need = some ⟨oc_is_need, od_is_need, .func (PySem.W.fnOf "is_need" "is_need" (defArgs s_is_need) (defBody s_is_need) (defScope s_is_need) .none kV_is_need dc_is_need pm_is_need an_is_need cd_is_need ct_is_need), sl_is_need⟩) (c_is_need : PySem.W.codeIn K cd_is_need "is_need" = true) (k_is_need : PySem.W.keepIn K (.ref f_is_need) = true)
    {f_rule_of : Addr} {od_rule_of an_rule_of : Option Addr} {sl_rule_of : Array (Option Value)} {oc_rule_of kV_rule_of dc_rule_of pm_rule_of cd_rule_of ct_rule_of : Value}
    (a_rule_of : PySem.W.nsIn K mainGlobals "rule_of" = some (some (.ref f_rule_of))) (l_rule_of : K.lookup f_rule_of = some ⟨oc_rule_of, od_rule_of, .func (PySem.W.fnOf "rule_of" "rule_of" (defArgs s_rule_of) (defBody s_rule_of) (defScope s_rule_of) .none kV_rule_of dc_rule_of pm_rule_of an_rule_of cd_rule_of ct_rule_of), sl_rule_of⟩) (c_rule_of : PySem.W.codeIn K cd_rule_of "rule_of" = true) (k_rule_of : PySem.W.keepIn K (.ref f_rule_of) = true)
    {f_is_value : Addr} {od_is_value an_is_value : Option Addr} {sl_is_value : Array (Option Value)} {oc_is_value kV_is_value dc_is_value pm_is_value cd_is_value ct_is_value : Value}
    (a_is_value : PySem.W.nsIn K mainGlobals "is_value" = some (some (.ref f_is_value))) (l_is_value : K.lookup f_is_value = some ⟨oc_is_value, od_is_value, .func (PySem.W.fnOf "is_value" "is_value" (defArgs s_is_value) (defBody s_is_value) (defScope s_is_value) .none kV_is_value dc_is_value pm_is_value an_is_value cd_is_value ct_is_value), sl_is_value⟩) (c_is_value : PySem.W.codeIn K cd_is_value "is_value" = true) (k_is_value : PySem.W.keepIn K (.ref f_is_value) = true)
    {f_is_rule : Addr} {od_is_rule an_is_rule : Option Addr} {sl_is_rule : Array (Option Value)} {oc_is_rule kV_is_rule dc_is_rule pm_is_rule cd_is_rule ct_is_rule : Value}
    (a_is_rule : PySem.W.nsIn K mainGlobals "is_rule" = some (some (.ref f_is_rule))) (l_is_rule : K.lookup f_is_rule = some ⟨oc_is_rule, od_is_rule, .func (PySem.W.fnOf "is_rule" "is_rule" (defArgs s_is_rule) (defBody s_is_rule) (defScope s_is_rule) .none kV_is_rule dc_is_rule pm_is_rule an_is_rule cd_is_rule ct_is_rule), sl_is_rule⟩) (c_is_rule : PySem.W.codeIn K cd_is_rule "is_rule" = true) (k_is_rule : PySem.W.keepIn K (.ref f_is_rule) = true)
    {f_is_row_of : Addr} {od_is_row_of an_is_row_of : Option Addr} {sl_is_row_of : Array (Option Value)} {oc_is_row_of kV_is_row_of dc_is_row_of pm_is_row_of cd_is_row_of ct_is_row_of : Value}
    (a_is_row_of : PySem.W.nsIn K mainGlobals "is_row_of" = some (some (.ref f_is_row_of))) (l_is_row_of : K.lookup f_is_row_of = some ⟨oc_is_row_of, od_is_row_of, .func (PySem.W.fnOf "is_row_of" "is_row_of" (defArgs s_is_row_of__is_value) (defBody s_is_row_of__is_value) (defScope s_is_row_of__is_value) .none kV_is_row_of dc_is_row_of pm_is_row_of an_is_row_of cd_is_row_of ct_is_row_of), sl_is_row_of⟩) (c_is_row_of : PySem.W.codeIn K cd_is_row_of "is_row_of" = true) (k_is_row_of : PySem.W.keepIn K (.ref f_is_row_of) = true)
    {f_leaf_of : Addr} {od_leaf_of an_leaf_of : Option Addr} {sl_leaf_of : Array (Option Value)} {oc_leaf_of kV_leaf_of dc_leaf_of pm_leaf_of cd_leaf_of ct_leaf_of : Value}
    (a_leaf_of : PySem.W.nsIn K mainGlobals "leaf_of" = some (some (.ref f_leaf_of))) (l_leaf_of : K.lookup f_leaf_of = some ⟨oc_leaf_of, od_leaf_of, .func (PySem.W.fnOf "leaf_of" "leaf_of" (defArgs s_leaf_of) (defBody s_leaf_of) (defScope s_leaf_of) .none kV_leaf_of dc_leaf_of pm_leaf_of an_leaf_of cd_leaf_of ct_leaf_of), sl_leaf_of⟩) (c_leaf_of : PySem.W.codeIn K cd_leaf_of "leaf_of" = true) (k_leaf_of : PySem.W.keepIn K (.ref f_leaf_of) = true)
    {f__law_cell_at : Addr} {od__law_cell_at an__law_cell_at : Option Addr} {sl__law_cell_at : Array (Option Value)} {oc__law_cell_at kV__law_cell_at dc__law_cell_at pm__law_cell_at cd__law_cell_at ct__law_cell_at : Value}
    (a__law_cell_at : PySem.W.nsIn K mainGlobals "_law_cell_at" = some (some (.ref f__law_cell_at))) (l__law_cell_at : K.lookup f__law_cell_at = some ⟨oc__law_cell_at, od__law_cell_at, .func (PySem.W.fnOf "_law_cell_at" "_law_cell_at" (defArgs s__law_cell_at) (defBody s__law_cell_at) (defScope s__law_cell_at) .none kV__law_cell_at dc__law_cell_at pm__law_cell_at an__law_cell_at cd__law_cell_at ct__law_cell_at), sl__law_cell_at⟩) (c__law_cell_at : PySem.W.codeIn K cd__law_cell_at "_law_cell_at" = true) (k__law_cell_at : PySem.W.keepIn K (.ref f__law_cell_at) = true)
    {f__law_well : Addr} {od__law_well an__law_well : Option Addr} {sl__law_well : Array (Option Value)} {oc__law_well kV__law_well dc__law_well pm__law_well cd__law_well ct__law_well : Value}
    (a__law_well : PySem.W.nsIn K mainGlobals "_law_well" = some (some (.ref f__law_well))) (l__law_well : K.lookup f__law_well = some ⟨oc__law_well, od__law_well, .func (PySem.W.fnOf "_law_well" "_law_well" (defArgs s__law_well) (defBody s__law_well) (defScope s__law_well) .none kV__law_well dc__law_well pm__law_well an__law_well cd__law_well ct__law_well), sl__law_well⟩) (c__law_well : PySem.W.codeIn K cd__law_well "_law_well" = true) (k__law_well : PySem.W.keepIn K (.ref f__law_well) = true)
    {f__law_draw : Addr} {od__law_draw an__law_draw : Option Addr} {sl__law_draw : Array (Option Value)} {oc__law_draw kV__law_draw dc__law_draw pm__law_draw cd__law_draw ct__law_draw : Value}
    (a__law_draw : PySem.W.nsIn K mainGlobals "_law_draw" = some (some (.ref f__law_draw))) (l__law_draw : K.lookup f__law_draw = some ⟨oc__law_draw, od__law_draw, .func (PySem.W.fnOf "_law_draw" "_law_draw" (defArgs s__law_draw) (defBody s__law_draw) (defScope s__law_draw) .none kV__law_draw dc__law_draw pm__law_draw an__law_draw cd__law_draw ct__law_draw), sl__law_draw⟩) (c__law_draw : PySem.W.codeIn K cd__law_draw "_law_draw" = true) (k__law_draw : PySem.W.keepIn K (.ref f__law_draw) = true)
    {f__law_whole : Addr} {od__law_whole an__law_whole : Option Addr} {sl__law_whole : Array (Option Value)} {oc__law_whole kV__law_whole dc__law_whole pm__law_whole cd__law_whole ct__law_whole : Value}
    (a__law_whole : PySem.W.nsIn K mainGlobals "_law_whole" = some (some (.ref f__law_whole))) (l__law_whole : K.lookup f__law_whole = some ⟨oc__law_whole, od__law_whole, .func (PySem.W.fnOf "_law_whole" "_law_whole" (defArgs s__law_whole) (defBody s__law_whole) (defScope s__law_whole) .none kV__law_whole dc__law_whole pm__law_whole an__law_whole cd__law_whole ct__law_whole), sl__law_whole⟩) (c__law_whole : PySem.W.codeIn K cd__law_whole "_law_whole" = true) (k__law_whole : PySem.W.keepIn K (.ref f__law_whole) = true)
    {f__law_rule : Addr} {od__law_rule an__law_rule : Option Addr} {sl__law_rule : Array (Option Value)} {oc__law_rule kV__law_rule dc__law_rule pm__law_rule cd__law_rule ct__law_rule : Value}
    (a__law_rule : PySem.W.nsIn K mainGlobals "_law_rule" = some (some (.ref f__law_rule))) (l__law_rule : K.lookup f__law_rule = some ⟨oc__law_rule, od__law_rule, .func (PySem.W.fnOf "_law_rule" "_law_rule" (defArgs s__law_rule) (defBody s__law_rule) (defScope s__law_rule) .none kV__law_rule dc__law_rule pm__law_rule an__law_rule cd__law_rule ct__law_rule), sl__law_rule⟩) (c__law_rule : PySem.W.codeIn K cd__law_rule "_law_rule" = true) (k__law_rule : PySem.W.keepIn K (.ref f__law_rule) = true)
    {f__law_leaf : Addr} {od__law_leaf an__law_leaf : Option Addr} {sl__law_leaf : Array (Option Value)} {oc__law_leaf kV__law_leaf dc__law_leaf pm__law_leaf cd__law_leaf ct__law_leaf : Value}
    (a__law_leaf : PySem.W.nsIn K mainGlobals "_law_leaf" = some (some (.ref f__law_leaf))) (l__law_leaf : K.lookup f__law_leaf = some ⟨oc__law_leaf, od__law_leaf, .func (PySem.W.fnOf "_law_leaf" "_law_leaf" (defArgs s__law_leaf) (defBody s__law_leaf) (defScope s__law_leaf) .none kV__law_leaf dc__law_leaf pm__law_leaf an__law_leaf cd__law_leaf ct__law_leaf), sl__law_leaf⟩) (c__law_leaf : PySem.W.codeIn K cd__law_leaf "_law_leaf" = true) (k__law_leaf : PySem.W.keepIn K (.ref f__law_leaf) = true)
    {f__law_odd_number : Addr} {od__law_odd_number an__law_odd_number : Option Addr} {sl__law_odd_number : Array (Option Value)} {oc__law_odd_number kV__law_odd_number dc__law_odd_number pm__law_odd_number cd__law_odd_number ct__law_odd_number : Value}
    (a__law_odd_number : PySem.W.nsIn K mainGlobals "_law_odd_number" = some (some (.ref f__law_odd_number))) (l__law_odd_number : K.lookup f__law_odd_number = some ⟨oc__law_odd_number, od__law_odd_number, .func (PySem.W.fnOf "_law_odd_number" "_law_odd_number" (defArgs s__law_odd_number) (defBody s__law_odd_number) (defScope s__law_odd_number) .none kV__law_odd_number dc__law_odd_number pm__law_odd_number an__law_odd_number cd__law_odd_number ct__law_odd_number), sl__law_odd_number⟩) (c__law_odd_number : PySem.W.codeIn K cd__law_odd_number "_law_odd_number" = true) (k__law_odd_number : PySem.W.keepIn K (.ref f__law_odd_number) = true)
    {f__law_odd_part : Addr} {od__law_odd_part an__law_odd_part : Option Addr} {sl__law_odd_part : Array (Option Value)} {oc__law_odd_part kV__law_odd_part dc__law_odd_part pm__law_odd_part cd__law_odd_part ct__law_odd_part : Value}
    (a__law_odd_part : PySem.W.nsIn K mainGlobals "_law_odd_part" = some (some (.ref f__law_odd_part))) (l__law_odd_part : K.lookup f__law_odd_part = some ⟨oc__law_odd_part, od__law_odd_part, .func (PySem.W.fnOf "_law_odd_part" "_law_odd_part" (defArgs s__law_odd_part) (defBody s__law_odd_part) (defScope s__law_odd_part) .none kV__law_odd_part dc__law_odd_part pm__law_odd_part an__law_odd_part cd__law_odd_part ct__law_odd_part), sl__law_odd_part⟩) (c__law_odd_part : PySem.W.codeIn K cd__law_odd_part "_law_odd_part" = true) (k__law_odd_part : PySem.W.keepIn K (.ref f__law_odd_part) = true)
    {f__law_changed : Addr} {od__law_changed an__law_changed : Option Addr} {sl__law_changed : Array (Option Value)} {oc__law_changed kV__law_changed dc__law_changed pm__law_changed cd__law_changed ct__law_changed : Value}
    (a__law_changed : PySem.W.nsIn K mainGlobals "_law_changed" = some (some (.ref f__law_changed))) (l__law_changed : K.lookup f__law_changed = some ⟨oc__law_changed, od__law_changed, .func (PySem.W.fnOf "_law_changed" "_law_changed" (defArgs s__law_changed) (defBody s__law_changed) (defScope s__law_changed) .none kV__law_changed dc__law_changed pm__law_changed an__law_changed cd__law_changed ct__law_changed), sl__law_changed⟩) (c__law_changed : PySem.W.codeIn K cd__law_changed "_law_changed" = true) (k__law_changed : PySem.W.keepIn K (.ref f__law_changed) = true)
    {f__law_thing : Addr} {od__law_thing an__law_thing : Option Addr} {sl__law_thing : Array (Option Value)} {oc__law_thing kV__law_thing dc__law_thing pm__law_thing cd__law_thing ct__law_thing : Value}
    (a__law_thing : PySem.W.nsIn K mainGlobals "_law_thing" = some (some (.ref f__law_thing))) (l__law_thing : K.lookup f__law_thing = some ⟨oc__law_thing, od__law_thing, .func (PySem.W.fnOf "_law_thing" "_law_thing" (defArgs s__law_thing) (defBody s__law_thing) (defScope s__law_thing) .none kV__law_thing dc__law_thing pm__law_thing an__law_thing cd__law_thing ct__law_thing), sl__law_thing⟩) (c__law_thing : PySem.W.codeIn K cd__law_thing "_law_thing" = true) (k__law_thing : PySem.W.keepIn K (.ref f__law_thing) = true)
    {f__law_within : Addr} {od__law_within an__law_within : Option Addr} {sl__law_within : Array (Option Value)} {oc__law_within kV__law_within dc__law_within pm__law_within cd__law_within ct__law_within : Value}
    (a__law_within : PySem.W.nsIn K mainGlobals "_law_within" = some (some (.ref f__law_within))) (l__law_within : K.lookup f__law_within = some ⟨oc__law_within, od__law_within, .func (PySem.W.fnOf "_law_within" "_law_within" (defArgs s__law_within) (defBody s__law_within) (defScope s__law_within) .none kV__law_within dc__law_within pm__law_within an__law_within cd__law_within ct__law_within), sl__law_within⟩) (c__law_within : PySem.W.codeIn K cd__law_within "_law_within" = true) (k__law_within : PySem.W.keepIn K (.ref f__law_within) = true)
    {f__law_is_rule : Addr} {od__law_is_rule an__law_is_rule : Option Addr} {sl__law_is_rule : Array (Option Value)} {oc__law_is_rule kV__law_is_rule dc__law_is_rule pm__law_is_rule cd__law_is_rule ct__law_is_rule : Value}
    (a__law_is_rule : PySem.W.nsIn K mainGlobals "_law_is_rule" = some (some (.ref f__law_is_rule))) (l__law_is_rule : K.lookup f__law_is_rule = some ⟨oc__law_is_rule, od__law_is_rule, .func (PySem.W.fnOf "_law_is_rule" "_law_is_rule" (defArgs s__law_is_rule) (defBody s__law_is_rule) (defScope s__law_is_rule) .none kV__law_is_rule dc__law_is_rule pm__law_is_rule an__law_is_rule cd__law_is_rule ct__law_is_rule), sl__law_is_rule⟩) (c__law_is_rule : PySem.W.codeIn K cd__law_is_rule "_law_is_rule" = true) (k__law_is_rule : PySem.W.keepIn K (.ref f__law_is_rule) = true)
    {f__law_is_leaf : Addr} {od__law_is_leaf an__law_is_leaf : Option Addr} {sl__law_is_leaf : Array (Option Value)} {oc__law_is_leaf kV__law_is_leaf dc__law_is_leaf pm__law_is_leaf cd__law_is_leaf ct__law_is_leaf : Value}
    (a__law_is_leaf : PySem.W.nsIn K mainGlobals "_law_is_leaf" = some (some (.ref f__law_is_leaf))) (l__law_is_leaf : K.lookup f__law_is_leaf = some ⟨oc__law_is_leaf, od__law_is_leaf, .func (PySem.W.fnOf "_law_is_leaf" "_law_is_leaf" (defArgs s__law_is_leaf) (defBody s__law_is_leaf) (defScope s__law_is_leaf) .none kV__law_is_leaf dc__law_is_leaf pm__law_is_leaf an__law_is_leaf cd__law_is_leaf ct__law_is_leaf), sl__law_is_leaf⟩) (c__law_is_leaf : PySem.W.codeIn K cd__law_is_leaf "_law_is_leaf" = true) (k__law_is_leaf : PySem.W.keepIn K (.ref f__law_is_leaf) = true)
    {f__law_asked : Addr} {od__law_asked an__law_asked : Option Addr} {sl__law_asked : Array (Option Value)} {oc__law_asked kV__law_asked dc__law_asked pm__law_asked cd__law_asked ct__law_asked : Value}
    (a__law_asked : PySem.W.nsIn K mainGlobals "_law_asked" = some (some (.ref f__law_asked))) (l__law_asked : K.lookup f__law_asked = some ⟨oc__law_asked, od__law_asked, .func (PySem.W.fnOf "_law_asked" "_law_asked" (defArgs s__law_asked) (defBody s__law_asked) (defScope s__law_asked) .none kV__law_asked dc__law_asked pm__law_asked an__law_asked cd__law_asked ct__law_asked), sl__law_asked⟩) (c__law_asked : PySem.W.codeIn K cd__law_asked "_law_asked" = true) (k__law_asked : PySem.W.keepIn K (.ref f__law_asked) = true)
    {f_law : Addr} {od_law an_law : Option Addr} {sl_law : Array (Option Value)} {oc_law kV_law dc_law pm_law cd_law ct_law : Value}
    (a_law : PySem.W.nsIn K mainGlobals "law" = some (some (.ref f_law))) (l_law : K.lookup f_law = some ⟨oc_law, od_law, .func (PySem.W.fnOf "law" "law" (defArgs s_law) (defBody s_law) (defScope s_law) .none kV_law dc_law pm_law an_law cd_law ct_law), sl_law⟩) (c_law : PySem.W.codeIn K cd_law "law" = true) (k_law : PySem.W.keepIn K (.ref f_law) = true)
    {f_Plain____init__ : Addr} {od_Plain____init__ an_Plain____init__ : Option Addr} {sl_Plain____init__ : Array (Option Value)} {oc_Plain____init__ kV_Plain____init__ dc_Plain____init__ pm_Plain____init__ cd_Plain____init__ ct_Plain____init__ : Value}
    (a_Plain____init__ : PySem.W.findIn K (.ref C_Plain) "__init__" = some (some (.ref f_Plain____init__))) (fn_Plain____init__ : PySem.W.isFn K (.ref f_Plain____init__) = true) (l_Plain____init__ : K.lookup f_Plain____init__ = some ⟨oc_Plain____init__, od_Plain____init__, .func (PySem.W.fnOf "__init__" "Plain.__init__" (defArgs s_Plain____init__) (defBody s_Plain____init__) (defScope s_Plain____init__) .none kV_Plain____init__ dc_Plain____init__ pm_Plain____init__ an_Plain____init__ cd_Plain____init__ ct_Plain____init__), sl_Plain____init__⟩) (c_Plain____init__ : PySem.W.codeIn K cd_Plain____init__ "Plain.__init__" = true) (k_Plain____init__ : PySem.W.keepIn K (.ref f_Plain____init__) = true)
    {f_Moved____init__ : Addr} {od_Moved____init__ an_Moved____init__ : Option Addr} {sl_Moved____init__ : Array (Option Value)} {oc_Moved____init__ kV_Moved____init__ dc_Moved____init__ pm_Moved____init__ cd_Moved____init__ ct_Moved____init__ : Value}
    (a_Moved____init__ : PySem.W.findIn K (.ref C_Moved) "__init__" = some (some (.ref f_Moved____init__))) (fn_Moved____init__ : PySem.W.isFn K (.ref f_Moved____init__) = true) (l_Moved____init__ : K.lookup f_Moved____init__ = some ⟨oc_Moved____init__, od_Moved____init__, .func (PySem.W.fnOf "__init__" "Moved.__init__" (defArgs s_Moved____init__) (defBody s_Moved____init__) (defScope s_Moved____init__) .none kV_Moved____init__ dc_Moved____init__ pm_Moved____init__ an_Moved____init__ cd_Moved____init__ ct_Moved____init__), sl_Moved____init__⟩) (c_Moved____init__ : PySem.W.codeIn K cd_Moved____init__ "Moved.__init__" = true) (k_Moved____init__ : PySem.W.keepIn K (.ref f_Moved____init__) = true)
    {f_Mixed____init__ : Addr} {od_Mixed____init__ an_Mixed____init__ : Option Addr} {sl_Mixed____init__ : Array (Option Value)} {oc_Mixed____init__ kV_Mixed____init__ dc_Mixed____init__ pm_Mixed____init__ cd_Mixed____init__ ct_Mixed____init__ : Value}
    (a_Mixed____init__ : PySem.W.findIn K (.ref C_Mixed) "__init__" = some (some (.ref f_Mixed____init__))) (fn_Mixed____init__ : PySem.W.isFn K (.ref f_Mixed____init__) = true) (l_Mixed____init__ : K.lookup f_Mixed____init__ = some ⟨oc_Mixed____init__, od_Mixed____init__, .func (PySem.W.fnOf "__init__" "Mixed.__init__" (defArgs s_Mixed____init__) (defBody s_Mixed____init__) (defScope s_Mixed____init__) .none kV_Mixed____init__ dc_Mixed____init__ pm_Mixed____init__ an_Mixed____init__ cd_Mixed____init__ ct_Mixed____init__), sl_Mixed____init__⟩) (c_Mixed____init__ : PySem.W.codeIn K cd_Mixed____init__ "Mixed.__init__" = true) (k_Mixed____init__ : PySem.W.keepIn K (.ref f_Mixed____init__) = true)
    {f_Full__told : Addr} {od_Full__told an_Full__told : Option Addr} {sl_Full__told : Array (Option Value)} {oc_Full__told kV_Full__told dc_Full__told pm_Full__told cd_Full__told ct_Full__told : Value}
    (a_Full__told : PySem.W.findIn K (.ref C_Full) "told" = some (some (.ref f_Full__told))) (fn_Full__told : PySem.W.isFn K (.ref f_Full__told) = true) (l_Full__told : K.lookup f_Full__told = some ⟨oc_Full__told, od_Full__told, .func (PySem.W.fnOf "told" "Full.told" (defArgs s_Full__told) (defBody s_Full__told) (defScope s_Full__told) .none kV_Full__told dc_Full__told pm_Full__told an_Full__told cd_Full__told ct_Full__told), sl_Full__told⟩) (c_Full__told : PySem.W.codeIn K cd_Full__told "Full.told" = true) (k_Full__told : PySem.W.keepIn K (.ref f_Full__told) = true)
    {f_Full____init__ : Addr} {od_Full____init__ an_Full____init__ : Option Addr} {sl_Full____init__ : Array (Option Value)} {oc_Full____init__ kV_Full____init__ dc_Full____init__ pm_Full____init__ cd_Full____init__ ct_Full____init__ : Value}
    (a_Full____init__ : PySem.W.findIn K (.ref C_Full) "__init__" = some (some (.ref f_Full____init__))) (fn_Full____init__ : PySem.W.isFn K (.ref f_Full____init__) = true) (l_Full____init__ : K.lookup f_Full____init__ = some ⟨oc_Full____init__, od_Full____init__, .func (PySem.W.fnOf "__init__" "Full.__init__" (defArgs s_Full____init__) (defBody s_Full____init__) (defScope s_Full____init__) .none kV_Full____init__ dc_Full____init__ pm_Full____init__ an_Full____init__ cd_Full____init__ ct_Full____init__), sl_Full____init__⟩) (c_Full____init__ : PySem.W.codeIn K cd_Full____init__ "Full.__init__" = true) (k_Full____init__ : PySem.W.keepIn K (.ref f_Full____init__) = true)
    {f_Still__told : Addr} {od_Still__told an_Still__told : Option Addr} {sl_Still__told : Array (Option Value)} {oc_Still__told kV_Still__told dc_Still__told pm_Still__told cd_Still__told ct_Still__told : Value}
    (a_Still__told : PySem.W.findIn K (.ref C_Still) "told" = some (some (.ref f_Still__told))) (fn_Still__told : PySem.W.isFn K (.ref f_Still__told) = true) (l_Still__told : K.lookup f_Still__told = some ⟨oc_Still__told, od_Still__told, .func (PySem.W.fnOf "told" "Still.told" (defArgs s_Still__told) (defBody s_Still__told) (defScope s_Still__told) .none kV_Still__told dc_Still__told pm_Still__told an_Still__told cd_Still__told ct_Still__told), sl_Still__told⟩) (c_Still__told : PySem.W.codeIn K cd_Still__told "Still.told" = true) (k_Still__told : PySem.W.keepIn K (.ref f_Still__told) = true)
    {f_Still____init__ : Addr} {od_Still____init__ an_Still____init__ : Option Addr} {sl_Still____init__ : Array (Option Value)} {oc_Still____init__ kV_Still____init__ dc_Still____init__ pm_Still____init__ cd_Still____init__ ct_Still____init__ : Value}
    (a_Still____init__ : PySem.W.findIn K (.ref C_Still) "__init__" = some (some (.ref f_Still____init__))) (fn_Still____init__ : PySem.W.isFn K (.ref f_Still____init__) = true) (l_Still____init__ : K.lookup f_Still____init__ = some ⟨oc_Still____init__, od_Still____init__, .func (PySem.W.fnOf "__init__" "Still.__init__" (defArgs s_Still____init__) (defBody s_Still____init__) (defScope s_Still____init__) .none kV_Still____init__ dc_Still____init__ pm_Still____init__ an_Still____init__ cd_Still____init__ ct_Still____init__), sl_Still____init__⟩) (c_Still____init__ : PySem.W.codeIn K cd_Still____init__ "Still.__init__" = true) (k_Still____init__ : PySem.W.keepIn K (.ref f_Still____init__) = true)
    {f_Woven__told : Addr} {od_Woven__told an_Woven__told : Option Addr} {sl_Woven__told : Array (Option Value)} {oc_Woven__told kV_Woven__told dc_Woven__told pm_Woven__told cd_Woven__told ct_Woven__told : Value}
    (a_Woven__told : PySem.W.findIn K (.ref C_Woven) "told" = some (some (.ref f_Woven__told))) (fn_Woven__told : PySem.W.isFn K (.ref f_Woven__told) = true) (l_Woven__told : K.lookup f_Woven__told = some ⟨oc_Woven__told, od_Woven__told, .func (PySem.W.fnOf "told" "Woven.told" (defArgs s_Woven__told) (defBody s_Woven__told) (defScope s_Woven__told) .none kV_Woven__told dc_Woven__told pm_Woven__told an_Woven__told cd_Woven__told ct_Woven__told), sl_Woven__told⟩) (c_Woven__told : PySem.W.codeIn K cd_Woven__told "Woven.told" = true) (k_Woven__told : PySem.W.keepIn K (.ref f_Woven__told) = true)
    {f_Woven____init__ : Addr} {od_Woven____init__ an_Woven____init__ : Option Addr} {sl_Woven____init__ : Array (Option Value)} {oc_Woven____init__ kV_Woven____init__ dc_Woven____init__ pm_Woven____init__ cd_Woven____init__ ct_Woven____init__ : Value}
    (a_Woven____init__ : PySem.W.findIn K (.ref C_Woven) "__init__" = some (some (.ref f_Woven____init__))) (fn_Woven____init__ : PySem.W.isFn K (.ref f_Woven____init__) = true) (l_Woven____init__ : K.lookup f_Woven____init__ = some ⟨oc_Woven____init__, od_Woven____init__, .func (PySem.W.fnOf "__init__" "Woven.__init__" (defArgs s_Woven____init__) (defBody s_Woven____init__) (defScope s_Woven____init__) .none kV_Woven____init__ dc_Woven____init__ pm_Woven____init__ an_Woven____init__ cd_Woven____init__ ct_Woven____init__), sl_Woven____init__⟩) (c_Woven____init__ : PySem.W.codeIn K cd_Woven____init__ "Woven.__init__" = true) (k_Woven____init__ : PySem.W.keepIn K (.ref f_Woven____init__) = true)
    {f_Leaf____init__ : Addr} {od_Leaf____init__ an_Leaf____init__ : Option Addr} {sl_Leaf____init__ : Array (Option Value)} {oc_Leaf____init__ kV_Leaf____init__ dc_Leaf____init__ pm_Leaf____init__ cd_Leaf____init__ ct_Leaf____init__ : Value}
    (a_Leaf____init__ : PySem.W.findIn K (.ref C_Leaf) "__init__" = some (some (.ref f_Leaf____init__))) (fn_Leaf____init__ : PySem.W.isFn K (.ref f_Leaf____init__) = true) (l_Leaf____init__ : K.lookup f_Leaf____init__ = some ⟨oc_Leaf____init__, od_Leaf____init__, .func (PySem.W.fnOf "__init__" "Leaf.__init__" (defArgs s_Leaf____init__) (defBody s_Leaf____init__) (defScope s_Leaf____init__) .none kV_Leaf____init__ dc_Leaf____init__ pm_Leaf____init__ an_Leaf____init__ cd_Leaf____init__ ct_Leaf____init__), sl_Leaf____init__⟩) (c_Leaf____init__ : PySem.W.codeIn K cd_Leaf____init__ "Leaf.__init__" = true) (k_Leaf____init__ : PySem.W.keepIn K (.ref f_Leaf____init__) = true)
    (rd_Leaf : PySem.W.readsIn K C_Leaf (.type "type") = true) (ga_Leaf : PySem.W.specialIn K (.ref C_Leaf) "__getattribute__" = some (some (.builtin "type.__getattribute__"))) (fc_Leaf : PySem.W.findCls K (.ref C_Leaf) (.type "type") "__init__" = some (.val (.ref f_Leaf____init__)))
    {C_NoRule : Addr}
    (xca_NoRule : PySem.W.nsIn K mainGlobals "NoRule" = some (some (.ref C_NoRule)))
    (xchg_NoRule : PySem.W.findIn K (.ref C_NoRule) "__getattribute__" = some (some (.builtin "BaseException.__getattribute__")))
    (xchk_NoRule : PySem.W.findIn K (.ref C_NoRule) "__getattr__" = some none)
    (xchs_NoRule : PySem.W.subIn K (.ref C_NoRule) (.type "BaseException") = some true)
    (xchd_NoRule : PySem.W.hasDictIn K C_NoRule = true)
    (xcha_NoRule : PySem.W.findIn K (.ref C_NoRule) "__class__" = some (some (.builtin "object.__class__")))
    (xchm_NoRule : PySem.W.mroIn K C_NoRule (.type "object") = some true)
    (xcty_NoRule : PySem.W.typeIn K (.ref C_NoRule) = some (.type "type"))
    (xckp_NoRule : PySem.W.keepIn K (.ref C_NoRule) = true)
    (xcve_NoRule : PySem.W.subIn K (.ref C_NoRule) (.type "ValueError") = some true)
    (xcis_NoRule : PySem.W.isClsIn K C_NoRule = true)
    (xcself_NoRule : PySem.W.subIn K (.ref C_NoRule) (.ref C_NoRule) = some true)
    (xcex_NoRule : PySem.W.excIn K C_NoRule [.type "ValueError", .type "Exception", .type "BaseException", .type "object"] "ValueError.__new__" = true)
    {C_NoLeaf : Addr}
    (xca_NoLeaf : PySem.W.nsIn K mainGlobals "NoLeaf" = some (some (.ref C_NoLeaf)))
    (xchg_NoLeaf : PySem.W.findIn K (.ref C_NoLeaf) "__getattribute__" = some (some (.builtin "BaseException.__getattribute__")))
    (xchk_NoLeaf : PySem.W.findIn K (.ref C_NoLeaf) "__getattr__" = some none)
    (xchs_NoLeaf : PySem.W.subIn K (.ref C_NoLeaf) (.type "BaseException") = some true)
    (xchd_NoLeaf : PySem.W.hasDictIn K C_NoLeaf = true)
    (xcha_NoLeaf : PySem.W.findIn K (.ref C_NoLeaf) "__class__" = some (some (.builtin "object.__class__")))
    (xchm_NoLeaf : PySem.W.mroIn K C_NoLeaf (.type "object") = some true)
    (xcty_NoLeaf : PySem.W.typeIn K (.ref C_NoLeaf) = some (.type "type"))
    (xckp_NoLeaf : PySem.W.keepIn K (.ref C_NoLeaf) = true)
    (xcve_NoLeaf : PySem.W.subIn K (.ref C_NoLeaf) (.type "ValueError") = some true)
    (xcis_NoLeaf : PySem.W.isClsIn K C_NoLeaf = true)
    (xcself_NoLeaf : PySem.W.subIn K (.ref C_NoLeaf) (.ref C_NoLeaf) = some true)
    (xcex_NoLeaf : PySem.W.excIn K C_NoLeaf [.type "ValueError", .type "Exception", .type "BaseException", .type "object"] "ValueError.__new__" = true)
    {C_ScrollError : Addr}
    (xca_ScrollError : PySem.W.nsIn K mainGlobals "ScrollError" = some (some (.ref C_ScrollError)))
    (xchg_ScrollError : PySem.W.findIn K (.ref C_ScrollError) "__getattribute__" = some (some (.builtin "BaseException.__getattribute__")))
    (xchk_ScrollError : PySem.W.findIn K (.ref C_ScrollError) "__getattr__" = some none)
    (xchs_ScrollError : PySem.W.subIn K (.ref C_ScrollError) (.type "BaseException") = some true)
    (xchd_ScrollError : PySem.W.hasDictIn K C_ScrollError = true)
    (xcha_ScrollError : PySem.W.findIn K (.ref C_ScrollError) "__class__" = some (some (.builtin "object.__class__")))
    (xchm_ScrollError : PySem.W.mroIn K C_ScrollError (.type "object") = some true)
    (xcty_ScrollError : PySem.W.typeIn K (.ref C_ScrollError) = some (.type "type"))
    (xckp_ScrollError : PySem.W.keepIn K (.ref C_ScrollError) = true)
    (xcve_ScrollError : PySem.W.subIn K (.ref C_ScrollError) (.type "ValueError") = some true)
    (xcis_ScrollError : PySem.W.isClsIn K C_ScrollError = true)
    (xcself_ScrollError : PySem.W.subIn K (.ref C_ScrollError) (.ref C_ScrollError) = some true)
    (xcex_ScrollError : PySem.W.excIn K C_ScrollError [.type "ValueError", .type "Exception", .type "BaseException", .type "object"] "ValueError.__new__" = true)
    {C_NoCell : Addr}
    (xca_NoCell : PySem.W.nsIn K mainGlobals "NoCell" = some (some (.ref C_NoCell)))
    (xchg_NoCell : PySem.W.findIn K (.ref C_NoCell) "__getattribute__" = some (some (.builtin "BaseException.__getattribute__")))
    (xchk_NoCell : PySem.W.findIn K (.ref C_NoCell) "__getattr__" = some none)
    (xchs_NoCell : PySem.W.subIn K (.ref C_NoCell) (.type "BaseException") = some true)
    (xchd_NoCell : PySem.W.hasDictIn K C_NoCell = true)
    (xcha_NoCell : PySem.W.findIn K (.ref C_NoCell) "__class__" = some (some (.builtin "object.__class__")))
    (xchm_NoCell : PySem.W.mroIn K C_NoCell (.type "object") = some true)
    (xcty_NoCell : PySem.W.typeIn K (.ref C_NoCell) = some (.type "type"))
    (xckp_NoCell : PySem.W.keepIn K (.ref C_NoCell) = true)
    (xcve_NoCell : PySem.W.subIn K (.ref C_NoCell) (.type "ValueError") = some true)
    (xcis_NoCell : PySem.W.isClsIn K C_NoCell = true)
    (xcself_NoCell : PySem.W.subIn K (.ref C_NoCell) (.ref C_NoCell) = some true)
    (xcex_NoCell : PySem.W.excIn K C_NoCell [.type "ValueError", .type "Exception", .type "BaseException", .type "object"] "ValueError.__new__" = true)
    {C_NoNumber : Addr}
    (xca_NoNumber : PySem.W.nsIn K mainGlobals "NoNumber" = some (some (.ref C_NoNumber)))
    (xchg_NoNumber : PySem.W.findIn K (.ref C_NoNumber) "__getattribute__" = some (some (.builtin "BaseException.__getattribute__")))
    (xchk_NoNumber : PySem.W.findIn K (.ref C_NoNumber) "__getattr__" = some none)
    (xchs_NoNumber : PySem.W.subIn K (.ref C_NoNumber) (.type "BaseException") = some true)
    (xchd_NoNumber : PySem.W.hasDictIn K C_NoNumber = true)
    (xcha_NoNumber : PySem.W.findIn K (.ref C_NoNumber) "__class__" = some (some (.builtin "object.__class__")))
    (xchm_NoNumber : PySem.W.mroIn K C_NoNumber (.type "object") = some true)
    (xcty_NoNumber : PySem.W.typeIn K (.ref C_NoNumber) = some (.type "type"))
    (xckp_NoNumber : PySem.W.keepIn K (.ref C_NoNumber) = true)
    (xcve_NoNumber : PySem.W.subIn K (.ref C_NoNumber) (.type "ValueError") = some true)
    (xcis_NoNumber : PySem.W.isClsIn K C_NoNumber = true)
    (xcself_NoNumber : PySem.W.subIn K (.ref C_NoNumber) (.ref C_NoNumber) = some true)
    (xcex_NoNumber : PySem.W.excIn K C_NoNumber [.type "ValueError", .type "Exception", .type "BaseException", .type "object"] "ValueError.__new__" = true)
    {C_NoFilm : Addr}
    (xca_NoFilm : PySem.W.nsIn K mainGlobals "NoFilm" = some (some (.ref C_NoFilm)))
    (xchg_NoFilm : PySem.W.findIn K (.ref C_NoFilm) "__getattribute__" = some (some (.builtin "BaseException.__getattribute__")))
    (xchk_NoFilm : PySem.W.findIn K (.ref C_NoFilm) "__getattr__" = some none)
    (xchs_NoFilm : PySem.W.subIn K (.ref C_NoFilm) (.type "BaseException") = some true)
    (xchd_NoFilm : PySem.W.hasDictIn K C_NoFilm = true)
    (xcha_NoFilm : PySem.W.findIn K (.ref C_NoFilm) "__class__" = some (some (.builtin "object.__class__")))
    (xchm_NoFilm : PySem.W.mroIn K C_NoFilm (.type "object") = some true)
    (xcty_NoFilm : PySem.W.typeIn K (.ref C_NoFilm) = some (.type "type"))
    (xckp_NoFilm : PySem.W.keepIn K (.ref C_NoFilm) = true)
    (xcve_NoFilm : PySem.W.subIn K (.ref C_NoFilm) (.type "ValueError") = some true)
    (xcis_NoFilm : PySem.W.isClsIn K C_NoFilm = true)
    (xcself_NoFilm : PySem.W.subIn K (.ref C_NoFilm) (.ref C_NoFilm) = some true)
    (p_NoRule_NoRule : PySem.W.subIn K (.ref C_NoRule) (.ref C_NoRule) = some true)
    (p_NoLeaf_NoCell : PySem.W.subIn K (.ref C_NoLeaf) (.ref C_NoCell) = some false)
    (p_NoLeaf_NoFilm : PySem.W.subIn K (.ref C_NoLeaf) (.ref C_NoFilm) = some false)
    (p_NoLeaf_NoLeaf : PySem.W.subIn K (.ref C_NoLeaf) (.ref C_NoLeaf) = some true)
    (p_NoLeaf_NoNumber : PySem.W.subIn K (.ref C_NoLeaf) (.ref C_NoNumber) = some false)
    (p_NoLeaf_NoRule : PySem.W.subIn K (.ref C_NoLeaf) (.ref C_NoRule) = some false)
    (p_NoLeaf_ScrollError : PySem.W.subIn K (.ref C_NoLeaf) (.ref C_ScrollError) = some true)
    (xhn : PySem.W.specialIn K (.builtin "object.__class__") "__get__" = some (some (.builtin "getset_descriptor.__get__"))) (xht : PySem.W.takesIn K (.builtin "object.__class__") = some true)
    (z_isinstance : PySem.W.nsIn K mainGlobals "isinstance" = some none)
    (z_int : PySem.W.nsIn K mainGlobals "int" = some none)
    (z_bool : PySem.W.nsIn K mainGlobals "bool" = some none)
    (z_tuple : PySem.W.nsIn K mainGlobals "tuple" = some none)
    (z_len : PySem.W.nsIn K mainGlobals "len" = some none)
    (z_all : PySem.W.nsIn K mainGlobals "all" = some none)
    (z_range : PySem.W.nsIn K mainGlobals "range" = some none)
    (z_list : PySem.W.nsIn K mainGlobals "list" = some none)
    (z_str : PySem.W.nsIn K mainGlobals "str" = some none)
    (z_ValueError : PySem.W.nsIn K mainGlobals "ValueError" = some none)
    : ∃ fd : FuncData, (∀ (s : Shared) (v : Value), BindsTo s fd ⟨[v], []⟩ [("_law_script", v)]) ∧ ∀ base : Heap, K.In base → base.Ns mainGlobals mg → FnOk l.prog w K mg base CX0 14 fa fd ["_law_script"] (spTop K) := by
  have e := hfa.symm.trans (PySem.W.mg_of X G a_law)
  cases e
  have F_is_whole := fun_mk (st := s_is_whole) l_is_whole c_is_whole k_is_whole
  have b_is_whole := F_is_whole.binds (ps := ["thing", "low", "high"]) fun _ _ _ _ _ _ us hl => match us, hl with | [_, _, _], _ => rfl
  have g_is_whole := PySem.W.mg_of X G a_is_whole
  have F_is_need := fun_mk (st := s_is_need) l_is_need c_is_need k_is_need
  have b_is_need := F_is_need.binds (ps := ["back", "cell"]) fun _ _ _ _ _ _ us hl => match us, hl with | [_, _], _ => rfl
  have g_is_need := PySem.W.mg_of X G a_is_need
  have F_rule_of := fun_mk (st := s_rule_of) l_rule_of c_rule_of k_rule_of
  have b_rule_of := F_rule_of.binds (ps := ["told"]) fun _ _ _ _ _ _ us hl => match us, hl with | [_], _ => rfl
  have g_rule_of := PySem.W.mg_of X G a_rule_of
  have F_is_value := fun_mk (st := s_is_value) l_is_value c_is_value k_is_value
  have b_is_value := F_is_value.binds (ps := ["thing"]) fun _ _ _ _ _ _ us hl => match us, hl with | [_], _ => rfl
  have g_is_value := PySem.W.mg_of X G a_is_value
  have F_is_rule := fun_mk (st := s_is_rule) l_is_rule c_is_rule k_is_rule
  have b_is_rule := F_is_rule.binds (ps := ["thing"]) fun _ _ _ _ _ _ us hl => match us, hl with | [_], _ => rfl
  have g_is_rule := PySem.W.mg_of X G a_is_rule
  have F_is_row_of := fun_mk (st := s_is_row_of__is_value) l_is_row_of c_is_row_of k_is_row_of
  have b_is_row_of := F_is_row_of.binds (ps := ["thing", "good"]) fun _ _ _ _ _ _ us hl => match us, hl with | [_, _], _ => rfl
  have g_is_row_of := PySem.W.mg_of X G a_is_row_of
  have F_leaf_of := fun_mk (st := s_leaf_of) l_leaf_of c_leaf_of k_leaf_of
  have b_leaf_of := F_leaf_of.binds (ps := ["told"]) fun _ _ _ _ _ _ us hl => match us, hl with | [_], _ => rfl
  have g_leaf_of := PySem.W.mg_of X G a_leaf_of
  have F__law_cell_at := fun_mk (st := s__law_cell_at) l__law_cell_at c__law_cell_at k__law_cell_at
  have b__law_cell_at := F__law_cell_at.binds (ps := ["_law_script", "_law_k"]) fun _ _ _ _ _ _ us hl => match us, hl with | [_, _], _ => rfl
  have g__law_cell_at := PySem.W.mg_of X G a__law_cell_at
  have F__law_well := fun_mk (st := s__law_well) l__law_well c__law_well k__law_well
  have b__law_well := F__law_well.binds (ps := ["_law_script", "_law_k"]) fun _ _ _ _ _ _ us hl => match us, hl with | [_, _], _ => rfl
  have g__law_well := PySem.W.mg_of X G a__law_well
  have F__law_draw := fun_mk (st := s__law_draw) l__law_draw c__law_draw k__law_draw
  have b__law_draw := F__law_draw.binds (ps := ["_law_well_here", "_law_many"]) fun _ _ _ _ _ _ us hl => match us, hl with | [_, _], _ => rfl
  have g__law_draw := PySem.W.mg_of X G a__law_draw
  have F__law_whole := fun_mk (st := s__law_whole) l__law_whole c__law_whole k__law_whole
  have b__law_whole := F__law_whole.binds (ps := ["_law_thing_here"]) fun _ _ _ _ _ _ us hl => match us, hl with | [_], _ => rfl
  have g__law_whole := PySem.W.mg_of X G a__law_whole
  have F__law_rule := fun_mk (st := s__law_rule) l__law_rule c__law_rule k__law_rule
  have b__law_rule := F__law_rule.binds (ps := ["_law_well_here"]) fun _ _ _ _ _ _ us hl => match us, hl with | [_], _ => rfl
  have g__law_rule := PySem.W.mg_of X G a__law_rule
  have F__law_leaf := fun_mk (st := s__law_leaf) l__law_leaf c__law_leaf k__law_leaf
  have b__law_leaf := F__law_leaf.binds (ps := ["_law_well_here"]) fun _ _ _ _ _ _ us hl => match us, hl with | [_], _ => rfl
  have g__law_leaf := PySem.W.mg_of X G a__law_leaf
  have F__law_odd_number := fun_mk (st := s__law_odd_number) l__law_odd_number c__law_odd_number k__law_odd_number
  have b__law_odd_number := F__law_odd_number.binds (ps := ["_law_well_here"]) fun _ _ _ _ _ _ us hl => match us, hl with | [_], _ => rfl
  have g__law_odd_number := PySem.W.mg_of X G a__law_odd_number
  have F__law_odd_part := fun_mk (st := s__law_odd_part) l__law_odd_part c__law_odd_part k__law_odd_part
  have b__law_odd_part := F__law_odd_part.binds (ps := ["_law_well_here"]) fun _ _ _ _ _ _ us hl => match us, hl with | [_], _ => rfl
  have g__law_odd_part := PySem.W.mg_of X G a__law_odd_part
  have F__law_changed := fun_mk (st := s__law_changed) l__law_changed c__law_changed k__law_changed
  have b__law_changed := F__law_changed.binds (ps := ["_law_well_here", "_law_row"]) fun _ _ _ _ _ _ us hl => match us, hl with | [_, _], _ => rfl
  have g__law_changed := PySem.W.mg_of X G a__law_changed
  have F__law_thing := fun_mk (st := s__law_thing) l__law_thing c__law_thing k__law_thing
  have b__law_thing := F__law_thing.binds (ps := ["_law_well_here", "_law_row"]) fun _ _ _ _ _ _ us hl => match us, hl with | [_, _], _ => rfl
  have g__law_thing := PySem.W.mg_of X G a__law_thing
  have F__law_within := fun_mk (st := s__law_within) l__law_within c__law_within k__law_within
  have b__law_within := F__law_within.binds (ps := ["_law_thing_here", "_law_low", "_law_high"]) fun _ _ _ _ _ _ us hl => match us, hl with | [_, _, _], _ => rfl
  have g__law_within := PySem.W.mg_of X G a__law_within
  have F__law_is_rule := fun_mk (st := s__law_is_rule) l__law_is_rule c__law_is_rule k__law_is_rule
  have b__law_is_rule := F__law_is_rule.binds (ps := ["_law_thing_here"]) fun _ _ _ _ _ _ us hl => match us, hl with | [_], _ => rfl
  have g__law_is_rule := PySem.W.mg_of X G a__law_is_rule
  have F__law_is_leaf := fun_mk (st := s__law_is_leaf) l__law_is_leaf c__law_is_leaf k__law_is_leaf
  have b__law_is_leaf := F__law_is_leaf.binds (ps := ["_law_thing_here"]) fun _ _ _ _ _ _ us hl => match us, hl with | [_], _ => rfl
  have g__law_is_leaf := PySem.W.mg_of X G a__law_is_leaf
  have F__law_asked := fun_mk (st := s__law_asked) l__law_asked c__law_asked k__law_asked
  have b__law_asked := F__law_asked.binds (ps := ["_law_thing_here"]) fun _ _ _ _ _ _ us hl => match us, hl with | [_], _ => rfl
  have g__law_asked := PySem.W.mg_of X G a__law_asked
  have F_law := fun_mk (st := s_law) l_law c_law k_law
  have b_law := F_law.binds (ps := ["_law_script"]) fun _ _ _ _ _ _ us hl => match us, hl with | [_], _ => rfl
  have g_law := PySem.W.mg_of X G a_law
  have F_Plain____init__ := fun_mk (st := s_Plain____init__) l_Plain____init__ c_Plain____init__ k_Plain____init__
  have b_Plain____init__ := F_Plain____init__.binds (ps := ["self", "value"]) fun _ _ _ _ _ _ us hl => match us, hl with | [_, _], _ => rfl
  have F_Moved____init__ := fun_mk (st := s_Moved____init__) l_Moved____init__ c_Moved____init__ k_Moved____init__
  have b_Moved____init__ := F_Moved____init__.binds (ps := ["self", "back", "cell", "add"]) fun _ _ _ _ _ _ us hl => match us, hl with | [_, _, _, _], _ => rfl
  have F_Mixed____init__ := fun_mk (st := s_Mixed____init__) l_Mixed____init__ c_Mixed____init__ k_Mixed____init__
  have b_Mixed____init__ := F_Mixed____init__.binds (ps := ["self", "back", "cell", "other_back", "other_cell"]) fun _ _ _ _ _ _ us hl => match us, hl with | [_, _, _, _, _], _ => rfl
  have F_Full__told := fun_mk (st := s_Full__told) l_Full__told c_Full__told k_Full__told
  have b_Full__told := F_Full__told.binds (ps := ["self"]) fun _ _ _ _ _ _ us hl => match us, hl with | [_], _ => rfl
  have F_Full____init__ := fun_mk (st := s_Full____init__) l_Full____init__ c_Full____init__ k_Full____init__
  have b_Full____init__ := F_Full____init__.binds (ps := ["self", "begin", "span", "values"]) fun _ _ _ _ _ _ us hl => match us, hl with | [_, _, _, _], _ => rfl
  have F_Still__told := fun_mk (st := s_Still__told) l_Still__told c_Still__told k_Still__told
  have b_Still__told := F_Still__told.binds (ps := ["self"]) fun _ _ _ _ _ _ us hl => match us, hl with | [_], _ => rfl
  have F_Still____init__ := fun_mk (st := s_Still____init__) l_Still____init__ c_Still____init__ k_Still____init__
  have b_Still____init__ := F_Still____init__.binds (ps := ["self", "begin", "span", "back"]) fun _ _ _ _ _ _ us hl => match us, hl with | [_, _, _, _], _ => rfl
  have F_Woven__told := fun_mk (st := s_Woven__told) l_Woven__told c_Woven__told k_Woven__told
  have b_Woven__told := F_Woven__told.binds (ps := ["self"]) fun _ _ _ _ _ _ us hl => match us, hl with | [_], _ => rfl
  have F_Woven____init__ := fun_mk (st := s_Woven____init__) l_Woven____init__ c_Woven____init__ k_Woven____init__
  have b_Woven____init__ := F_Woven____init__.binds (ps := ["self", "begin", "span", "rules"]) fun _ _ _ _ _ _ us hl => match us, hl with | [_, _, _, _], _ => rfl
  have F_Leaf____init__ := fun_mk (st := s_Leaf____init__) l_Leaf____init__ c_Leaf____init__ k_Leaf____init__
  have b_Leaf____init__ := F_Leaf____init__.binds (ps := ["self", "begin", "span"]) fun _ _ _ _ _ _ us hl => match us, hl with | [_, _, _], _ => rfl
  have T_Plain : KI K mg "Plain" C_Plain := ⟨⟨kca_Plain, ⟨kcpg_Plain, kchd_Plain, kcpo_Plain, kcsa_Plain⟩, kcha_Plain, xhn, xht, kchm_Plain, bt_of kctbool_Plain kctint_Plain kctstr_Plain kctlist_Plain kcttuple_Plain kctdict_Plain⟩, PySem.W.mg_of X G kca_Plain, kcty_Plain, kcis_Plain, kcself_Plain⟩
  have T_Moved : KI K mg "Moved" C_Moved := ⟨⟨kca_Moved, ⟨kcpg_Moved, kchd_Moved, kcpo_Moved, kcsa_Moved⟩, kcha_Moved, xhn, xht, kchm_Moved, bt_of kctbool_Moved kctint_Moved kctstr_Moved kctlist_Moved kcttuple_Moved kctdict_Moved⟩, PySem.W.mg_of X G kca_Moved, kcty_Moved, kcis_Moved, kcself_Moved⟩
  have T_Mixed : KI K mg "Mixed" C_Mixed := ⟨⟨kca_Mixed, ⟨kcpg_Mixed, kchd_Mixed, kcpo_Mixed, kcsa_Mixed⟩, kcha_Mixed, xhn, xht, kchm_Mixed, bt_of kctbool_Mixed kctint_Mixed kctstr_Mixed kctlist_Mixed kcttuple_Mixed kctdict_Mixed⟩, PySem.W.mg_of X G kca_Mixed, kcty_Mixed, kcis_Mixed, kcself_Mixed⟩
  have T_Leaf : KI K mg "Leaf" C_Leaf := ⟨⟨kca_Leaf, ⟨kcpg_Leaf, kchd_Leaf, kcpo_Leaf, kcsa_Leaf⟩, kcha_Leaf, xhn, xht, kchm_Leaf, bt_of kctbool_Leaf kctint_Leaf kctstr_Leaf kctlist_Leaf kcttuple_Leaf kctdict_Leaf⟩, PySem.W.mg_of X G kca_Leaf, kcty_Leaf, kcis_Leaf, kcself_Leaf⟩
  have T_Full : KI K mg "Full" C_Full := ⟨⟨kca_Full, ⟨kcpg_Full, kchd_Full, kcpo_Full, kcsa_Full⟩, kcha_Full, xhn, xht, kchm_Full, bt_of kctbool_Full kctint_Full kctstr_Full kctlist_Full kcttuple_Full kctdict_Full⟩, PySem.W.mg_of X G kca_Full, kcty_Full, kcis_Full, kcself_Full⟩
  have T_Still : KI K mg "Still" C_Still := ⟨⟨kca_Still, ⟨kcpg_Still, kchd_Still, kcpo_Still, kcsa_Still⟩, kcha_Still, xhn, xht, kchm_Still, bt_of kctbool_Still kctint_Still kctstr_Still kctlist_Still kcttuple_Still kctdict_Still⟩, PySem.W.mg_of X G kca_Still, kcty_Still, kcis_Still, kcself_Still⟩
  have T_Woven : KI K mg "Woven" C_Woven := ⟨⟨kca_Woven, ⟨kcpg_Woven, kchd_Woven, kcpo_Woven, kcsa_Woven⟩, kcha_Woven, xhn, xht, kchm_Woven, bt_of kctbool_Woven kctint_Woven kctstr_Woven kctlist_Woven kcttuple_Woven kctdict_Woven⟩, PySem.W.mg_of X G kca_Woven, kcty_Woven, kcis_Woven, kcself_Woven⟩
  have M_Plain : Mk K C_Plain f_Plain____init__ := ⟨kcmk_Plain, a_Plain____init__, fn_Plain____init__, kckp_Plain⟩
  have lo_Plain : LaysOk K C_Plain ["worth"] := ⟨n_Plain_worth, trivial⟩
  have bi_Plain := b_Plain____init__
  have M_Moved : Mk K C_Moved f_Moved____init__ := ⟨kcmk_Moved, a_Moved____init__, fn_Moved____init__, kckp_Moved⟩
  have lo_Moved : LaysOk K C_Moved ["back", "cell", "add"] := ⟨n_Moved_back, ⟨n_Moved_cell, ⟨n_Moved_add, trivial⟩⟩⟩
  have bi_Moved := b_Moved____init__
  have M_Mixed : Mk K C_Mixed f_Mixed____init__ := ⟨kcmk_Mixed, a_Mixed____init__, fn_Mixed____init__, kckp_Mixed⟩
  have lo_Mixed : LaysOk K C_Mixed ["back", "cell", "other_back", "other_cell"] := ⟨n_Mixed_back, ⟨n_Mixed_cell, ⟨n_Mixed_other_back, ⟨n_Mixed_other_cell, trivial⟩⟩⟩⟩
  have bi_Mixed := b_Mixed____init__
  have M_Full : Mk K C_Full f_Full____init__ := ⟨kcmk_Full, a_Full____init__, fn_Full____init__, kckp_Full⟩
  have lo_Full : LaysOk K C_Full ["begin", "span", "worths"] := ⟨n_Full_begin, ⟨n_Full_span, ⟨n_Full_worths, trivial⟩⟩⟩
  have bi_Full := b_Full____init__
  have M_Still : Mk K C_Still f_Still____init__ := ⟨kcmk_Still, a_Still____init__, fn_Still____init__, kckp_Still⟩
  have lo_Still : LaysOk K C_Still ["begin", "span", "back"] := ⟨n_Still_begin, ⟨n_Still_span, ⟨n_Still_back, trivial⟩⟩⟩
  have bi_Still := b_Still____init__
  have M_Woven : Mk K C_Woven f_Woven____init__ := ⟨kcmk_Woven, a_Woven____init__, fn_Woven____init__, kckp_Woven⟩
  have lo_Woven : LaysOk K C_Woven ["begin", "span", "rules"] := ⟨n_Woven_begin, ⟨n_Woven_span, ⟨n_Woven_rules, trivial⟩⟩⟩
  have bi_Woven := b_Woven____init__
  have F_is_row_of__is_value := F_is_row_of
  have b_is_row_of__is_value := b_is_row_of
  have g_is_row_of__is_value := g_is_row_of
  have k_is_row_of__is_value := k_is_row_of
  have F_is_row_of__is_rule := F_is_row_of
  have b_is_row_of__is_rule := b_is_row_of
  have g_is_row_of__is_rule := g_is_row_of
  have k_is_row_of__is_rule := k_is_row_of
  have T_NoRule : ExcR K mg "NoRule" C_NoRule := ⟨⟨PySem.W.mg_of X G xca_NoRule, ⟨xchg_NoRule, xchk_NoRule, xchs_NoRule, xchd_NoRule, xcha_NoRule, xhn, xht, xchm_NoRule⟩, xcty_NoRule, xckp_NoRule, xcve_NoRule, xcis_NoRule, xcself_NoRule⟩, xcex_NoRule⟩
  have T_NoLeaf : ExcR K mg "NoLeaf" C_NoLeaf := ⟨⟨PySem.W.mg_of X G xca_NoLeaf, ⟨xchg_NoLeaf, xchk_NoLeaf, xchs_NoLeaf, xchd_NoLeaf, xcha_NoLeaf, xhn, xht, xchm_NoLeaf⟩, xcty_NoLeaf, xckp_NoLeaf, xcve_NoLeaf, xcis_NoLeaf, xcself_NoLeaf⟩, xcex_NoLeaf⟩
  have T_ScrollError : ExcR K mg "ScrollError" C_ScrollError := ⟨⟨PySem.W.mg_of X G xca_ScrollError, ⟨xchg_ScrollError, xchk_ScrollError, xchs_ScrollError, xchd_ScrollError, xcha_ScrollError, xhn, xht, xchm_ScrollError⟩, xcty_ScrollError, xckp_ScrollError, xcve_ScrollError, xcis_ScrollError, xcself_ScrollError⟩, xcex_ScrollError⟩
  have T_NoCell : ExcR K mg "NoCell" C_NoCell := ⟨⟨PySem.W.mg_of X G xca_NoCell, ⟨xchg_NoCell, xchk_NoCell, xchs_NoCell, xchd_NoCell, xcha_NoCell, xhn, xht, xchm_NoCell⟩, xcty_NoCell, xckp_NoCell, xcve_NoCell, xcis_NoCell, xcself_NoCell⟩, xcex_NoCell⟩
  have T_NoNumber : ExcR K mg "NoNumber" C_NoNumber := ⟨⟨PySem.W.mg_of X G xca_NoNumber, ⟨xchg_NoNumber, xchk_NoNumber, xchs_NoNumber, xchd_NoNumber, xcha_NoNumber, xhn, xht, xchm_NoNumber⟩, xcty_NoNumber, xckp_NoNumber, xcve_NoNumber, xcis_NoNumber, xcself_NoNumber⟩, xcex_NoNumber⟩
  have T_NoFilm : ExcT K mg "NoFilm" C_NoFilm := ⟨PySem.W.mg_of X G xca_NoFilm, ⟨xchg_NoFilm, xchk_NoFilm, xchs_NoFilm, xchd_NoFilm, xcha_NoFilm, xhn, xht, xchm_NoFilm⟩, xcty_NoFilm, xckp_NoFilm, xcve_NoFilm, xcis_NoFilm, xcself_NoFilm⟩
  have bI_isinstance := PySem.W.mg_none_of X G z_isinstance
  have bI_int := PySem.W.mg_none_of X G z_int
  have bI_bool := PySem.W.mg_none_of X G z_bool
  have bI_tuple := PySem.W.mg_none_of X G z_tuple
  have bI_len := PySem.W.mg_none_of X G z_len
  have bI_all := PySem.W.mg_none_of X G z_all
  have bI_range := PySem.W.mg_none_of X G z_range
  have bI_list := PySem.W.mg_none_of X G z_list
  have bI_str := PySem.W.mg_none_of X G z_str
  have bI_ValueError := PySem.W.mg_none_of X G z_ValueError
  have kb_Moved____init___2_add : KBinds K (PySem.W.fnOf "__init__" "Moved.__init__" (defArgs s_Moved____init__) (defBody s_Moved____init__) (defScope s_Moved____init__) .none kV_Moved____init__ dc_Moved____init__ pm_Moved____init__ an_Moved____init__ cd_Moved____init__ ct_Moved____init__) ["self", "back", "cell", "add"] ["add"] (fun us ws => match us, ws with | [u0, u1, u2], [w0] => [u0, u1, u2, w0] | _, _ => []) (fun us ws => match us, ws with | [u0, u1, u2], [w0] => [u0, u1, u2, w0] | _, _ => []) := by
    refine F_Moved____init__.kb (fun _ _ _ _ _ _ us ws hl => ?_) (fun {vs us zs ws} r1 r2 => ?_)
    · skip
      cases us with
      | nil => exact absurd (show (0 : Nat) = 4 from hl) (by decide)
      | cons q00 us =>
        cases us with
        | nil => exact absurd (show (0 : Nat) = 4 from hl) (by decide)
        | cons q01 us =>
          cases us with
          | nil => exact absurd (show (0 : Nat) = 4 from hl) (by decide)
          | cons q02 us =>
            cases us with
            | nil =>
              cases ws with
              | nil => exact absurd (show (0 : Nat) = 4 from hl) (by decide)
              | cons q10 ws =>
                cases ws with
                | nil =>
                  rfl
                | cons _ _ => exact absurd (show (0 : Nat) = 4 from hl) (by decide)
            | cons _ _ => exact absurd (show (0 : Nat) = 4 from hl) (by decide)
    · skip
      cases r1 with
      | nil => exact .nil
      | cons q00 r1 =>
        cases r1 with
        | nil => exact .nil
        | cons q01 r1 =>
          cases r1 with
          | nil => exact .nil
          | cons q02 r1 =>
            cases r1 with
            | nil =>
              cases r2 with
              | nil => exact .nil
              | cons q10 r2 =>
                cases r2 with
                | nil =>
                  exact (.cons q00 (.cons q01 (.cons q02 (.cons q10 .nil))))
                | cons _ _ => exact .nil
            | cons _ _ => exact .nil
  have kb_is_need_0_back_cell : KBinds K (PySem.W.fnOf "is_need" "is_need" (defArgs s_is_need) (defBody s_is_need) (defScope s_is_need) .none kV_is_need dc_is_need pm_is_need an_is_need cd_is_need ct_is_need) ["back", "cell"] ["back", "cell"] (fun us ws => match us, ws with | [], [w0, w1] => [w0, w1] | _, _ => []) (fun us ws => match us, ws with | [], [w0, w1] => [w0, w1] | _, _ => []) := by
    refine F_is_need.kb (fun _ _ _ _ _ _ us ws hl => ?_) (fun {vs us zs ws} r1 r2 => ?_)
    · skip
      cases us with
      | nil =>
        cases ws with
        | nil => exact absurd (show (0 : Nat) = 2 from hl) (by decide)
        | cons q10 ws =>
          cases ws with
          | nil => exact absurd (show (0 : Nat) = 2 from hl) (by decide)
          | cons q11 ws =>
            cases ws with
            | nil =>
              rfl
            | cons _ _ => exact absurd (show (0 : Nat) = 2 from hl) (by decide)
      | cons _ _ => exact absurd (show (0 : Nat) = 2 from hl) (by decide)
    · skip
      cases r1 with
      | nil =>
        cases r2 with
        | nil => exact .nil
        | cons q10 r2 =>
          cases r2 with
          | nil => exact .nil
          | cons q11 r2 =>
            cases r2 with
            | nil =>
              exact (.cons q10 (.cons q11 .nil))
            | cons _ _ => exact .nil
      | cons _ _ => exact .nil
  have kb_Mixed____init___2_other_back_other_cell : KBinds K (PySem.W.fnOf "__init__" "Mixed.__init__" (defArgs s_Mixed____init__) (defBody s_Mixed____init__) (defScope s_Mixed____init__) .none kV_Mixed____init__ dc_Mixed____init__ pm_Mixed____init__ an_Mixed____init__ cd_Mixed____init__ ct_Mixed____init__) ["self", "back", "cell", "other_back", "other_cell"] ["other_back", "other_cell"] (fun us ws => match us, ws with | [u0, u1, u2], [w0, w1] => [u0, u1, u2, w0, w1] | _, _ => []) (fun us ws => match us, ws with | [u0, u1, u2], [w0, w1] => [u0, u1, u2, w0, w1] | _, _ => []) := by
    refine F_Mixed____init__.kb (fun _ _ _ _ _ _ us ws hl => ?_) (fun {vs us zs ws} r1 r2 => ?_)
    · skip
      cases us with
      | nil => exact absurd (show (0 : Nat) = 5 from hl) (by decide)
      | cons q00 us =>
        cases us with
        | nil => exact absurd (show (0 : Nat) = 5 from hl) (by decide)
        | cons q01 us =>
          cases us with
          | nil => exact absurd (show (0 : Nat) = 5 from hl) (by decide)
          | cons q02 us =>
            cases us with
            | nil =>
              cases ws with
              | nil => exact absurd (show (0 : Nat) = 5 from hl) (by decide)
              | cons q10 ws =>
                cases ws with
                | nil => exact absurd (show (0 : Nat) = 5 from hl) (by decide)
                | cons q11 ws =>
                  cases ws with
                  | nil =>
                    rfl
                  | cons _ _ => exact absurd (show (0 : Nat) = 5 from hl) (by decide)
            | cons _ _ => exact absurd (show (0 : Nat) = 5 from hl) (by decide)
    · skip
      cases r1 with
      | nil => exact .nil
      | cons q00 r1 =>
        cases r1 with
        | nil => exact .nil
        | cons q01 r1 =>
          cases r1 with
          | nil => exact .nil
          | cons q02 r1 =>
            cases r1 with
            | nil =>
              cases r2 with
              | nil => exact .nil
              | cons q10 r2 =>
                cases r2 with
                | nil => exact .nil
                | cons q11 r2 =>
                  cases r2 with
                  | nil =>
                    exact (.cons q00 (.cons q01 (.cons q02 (.cons q10 (.cons q11 .nil)))))
                  | cons _ _ => exact .nil
            | cons _ _ => exact .nil
  have kb_Full____init___2_values : KBinds K (PySem.W.fnOf "__init__" "Full.__init__" (defArgs s_Full____init__) (defBody s_Full____init__) (defScope s_Full____init__) .none kV_Full____init__ dc_Full____init__ pm_Full____init__ an_Full____init__ cd_Full____init__ ct_Full____init__) ["self", "begin", "span", "values"] ["values"] (fun us ws => match us, ws with | [u0, u1, u2], [w0] => [u0, u1, u2, w0] | _, _ => []) (fun us ws => match us, ws with | [u0, u1, u2], [w0] => [u0, u1, u2, w0] | _, _ => []) := by
    refine F_Full____init__.kb (fun _ _ _ _ _ _ us ws hl => ?_) (fun {vs us zs ws} r1 r2 => ?_)
    · skip
      cases us with
      | nil => exact absurd (show (0 : Nat) = 4 from hl) (by decide)
      | cons q00 us =>
        cases us with
        | nil => exact absurd (show (0 : Nat) = 4 from hl) (by decide)
        | cons q01 us =>
          cases us with
          | nil => exact absurd (show (0 : Nat) = 4 from hl) (by decide)
          | cons q02 us =>
            cases us with
            | nil =>
              cases ws with
              | nil => exact absurd (show (0 : Nat) = 4 from hl) (by decide)
              | cons q10 ws =>
                cases ws with
                | nil =>
                  rfl
                | cons _ _ => exact absurd (show (0 : Nat) = 4 from hl) (by decide)
            | cons _ _ => exact absurd (show (0 : Nat) = 4 from hl) (by decide)
    · skip
      cases r1 with
      | nil => exact .nil
      | cons q00 r1 =>
        cases r1 with
        | nil => exact .nil
        | cons q01 r1 =>
          cases r1 with
          | nil => exact .nil
          | cons q02 r1 =>
            cases r1 with
            | nil =>
              cases r2 with
              | nil => exact .nil
              | cons q10 r2 =>
                cases r2 with
                | nil =>
                  exact (.cons q00 (.cons q01 (.cons q02 (.cons q10 .nil))))
                | cons _ _ => exact .nil
            | cons _ _ => exact .nil
  have kb_Still____init___2_back : KBinds K (PySem.W.fnOf "__init__" "Still.__init__" (defArgs s_Still____init__) (defBody s_Still____init__) (defScope s_Still____init__) .none kV_Still____init__ dc_Still____init__ pm_Still____init__ an_Still____init__ cd_Still____init__ ct_Still____init__) ["self", "begin", "span", "back"] ["back"] (fun us ws => match us, ws with | [u0, u1, u2], [w0] => [u0, u1, u2, w0] | _, _ => []) (fun us ws => match us, ws with | [u0, u1, u2], [w0] => [u0, u1, u2, w0] | _, _ => []) := by
    refine F_Still____init__.kb (fun _ _ _ _ _ _ us ws hl => ?_) (fun {vs us zs ws} r1 r2 => ?_)
    · skip
      cases us with
      | nil => exact absurd (show (0 : Nat) = 4 from hl) (by decide)
      | cons q00 us =>
        cases us with
        | nil => exact absurd (show (0 : Nat) = 4 from hl) (by decide)
        | cons q01 us =>
          cases us with
          | nil => exact absurd (show (0 : Nat) = 4 from hl) (by decide)
          | cons q02 us =>
            cases us with
            | nil =>
              cases ws with
              | nil => exact absurd (show (0 : Nat) = 4 from hl) (by decide)
              | cons q10 ws =>
                cases ws with
                | nil =>
                  rfl
                | cons _ _ => exact absurd (show (0 : Nat) = 4 from hl) (by decide)
            | cons _ _ => exact absurd (show (0 : Nat) = 4 from hl) (by decide)
    · skip
      cases r1 with
      | nil => exact .nil
      | cons q00 r1 =>
        cases r1 with
        | nil => exact .nil
        | cons q01 r1 =>
          cases r1 with
          | nil => exact .nil
          | cons q02 r1 =>
            cases r1 with
            | nil =>
              cases r2 with
              | nil => exact .nil
              | cons q10 r2 =>
                cases r2 with
                | nil =>
                  exact (.cons q00 (.cons q01 (.cons q02 (.cons q10 .nil))))
                | cons _ _ => exact .nil
            | cons _ _ => exact .nil
  have kb_Woven____init___2_rules : KBinds K (PySem.W.fnOf "__init__" "Woven.__init__" (defArgs s_Woven____init__) (defBody s_Woven____init__) (defScope s_Woven____init__) .none kV_Woven____init__ dc_Woven____init__ pm_Woven____init__ an_Woven____init__ cd_Woven____init__ ct_Woven____init__) ["self", "begin", "span", "rules"] ["rules"] (fun us ws => match us, ws with | [u0, u1, u2], [w0] => [u0, u1, u2, w0] | _, _ => []) (fun us ws => match us, ws with | [u0, u1, u2], [w0] => [u0, u1, u2, w0] | _, _ => []) := by
    refine F_Woven____init__.kb (fun _ _ _ _ _ _ us ws hl => ?_) (fun {vs us zs ws} r1 r2 => ?_)
    · skip
      cases us with
      | nil => exact absurd (show (0 : Nat) = 4 from hl) (by decide)
      | cons q00 us =>
        cases us with
        | nil => exact absurd (show (0 : Nat) = 4 from hl) (by decide)
        | cons q01 us =>
          cases us with
          | nil => exact absurd (show (0 : Nat) = 4 from hl) (by decide)
          | cons q02 us =>
            cases us with
            | nil =>
              cases ws with
              | nil => exact absurd (show (0 : Nat) = 4 from hl) (by decide)
              | cons q10 ws =>
                cases ws with
                | nil =>
                  rfl
                | cons _ _ => exact absurd (show (0 : Nat) = 4 from hl) (by decide)
            | cons _ _ => exact absurd (show (0 : Nat) = 4 from hl) (by decide)
    · skip
      cases r1 with
      | nil => exact .nil
      | cons q00 r1 =>
        cases r1 with
        | nil => exact .nil
        | cons q01 r1 =>
          cases r1 with
          | nil => exact .nil
          | cons q02 r1 =>
            cases r1 with
            | nil =>
              cases r2 with
              | nil => exact .nil
              | cons q10 r2 =>
                cases r2 with
                | nil =>
                  exact (.cons q00 (.cons q01 (.cons q02 (.cons q10 .nil))))
                | cons _ _ => exact .nil
            | cons _ _ => exact .nil
  refine ⟨_, fun s v => (.of_eq rfl : BindsTo s (PySem.W.fnOf "law" "law" (defArgs s_law) (defBody s_law) (defScope s_law) .none kV_law dc_law pm_law an_law cd_law ct_law) ⟨[v], []⟩ [("_law_script", v)]), fun base _ _ => ?_⟩
  have G_Plain____init__ := ok_Plain____init__ (Pr := l.prog) (wo := w) (base := base) (mg := mg) F_Plain____init__
  have Gi_Plain := G_Plain____init__
  have G_Moved____init__ := ok_Moved____init__ (Pr := l.prog) (wo := w) (base := base) (mg := mg) F_Moved____init__
  have Gi_Moved := G_Moved____init__
  have G_Mixed____init__ := ok_Mixed____init__ (Pr := l.prog) (wo := w) (base := base) (mg := mg) F_Mixed____init__
  have Gi_Mixed := G_Mixed____init__
  have G_Leaf____init__ := ok_Leaf____init__ (Pr := l.prog) (wo := w) (base := base) (mg := mg) F_Leaf____init__
  have r_Leaf : ClX.CRead K C_Leaf (.type "type") := ⟨rd_Leaf, ga_Leaf⟩
  have cv_Leaf : ClX.CVal K C_Leaf (.type "type") "__init__" (.ref f_Leaf____init__) (.ref f_Leaf____init__) := ⟨fc_Leaf, rfl⟩
  have ki_Leaf := k_Leaf____init__
  have bi_Leaf := b_Leaf____init__
  have Gi_Leaf := G_Leaf____init__
  have G_Full____init__ := ok_Full____init__ (Pr := l.prog) (wo := w) (base := base) (mg := mg) F_Full____init__ T_Leaf r_Leaf cv_Leaf ki_Leaf bi_Leaf Gi_Leaf
  have Gi_Full := G_Full____init__
  have G_Still____init__ := ok_Still____init__ (Pr := l.prog) (wo := w) (base := base) (mg := mg) F_Still____init__ T_Leaf r_Leaf cv_Leaf ki_Leaf bi_Leaf Gi_Leaf
  have Gi_Still := G_Still____init__
  have G_Woven____init__ := ok_Woven____init__ (Pr := l.prog) (wo := w) (base := base) (mg := mg) F_Woven____init__ T_Leaf r_Leaf cv_Leaf ki_Leaf bi_Leaf Gi_Leaf
  have Gi_Woven := G_Woven____init__
  have G_is_whole := ok_is_whole (Pr := l.prog) (wo := w) (base := base) (mg := mg) F_is_whole bI_isinstance bI_int bI_bool
  have G__law_cell_at := ok__law_cell_at (Pr := l.prog) (wo := w) (base := base) (mg := mg) F__law_cell_at bI_len
  have G__law_draw := ok__law_draw (Pr := l.prog) (wo := w) (base := base) (mg := mg) F__law_draw
  have G__law_whole := ok__law_whole (Pr := l.prog) (wo := w) (base := base) (mg := mg) F__law_whole bI_isinstance bI_int bI_bool
  have G_Full__told := ok_Full__told (Pr := l.prog) (wo := w) (base := base) (mg := mg) F_Full__told T_Full n_Full_begin n_Full_span n_Full_worths
  have G_Still__told := ok_Still__told (Pr := l.prog) (wo := w) (base := base) (mg := mg) F_Still__told T_Still n_Still_begin n_Still_span n_Still_back
  have G_Woven__told := ok_Woven__told (Pr := l.prog) (wo := w) (base := base) (mg := mg) F_Woven__told T_Woven n_Woven_begin n_Woven_span n_Woven_rules
  have G_is_need := ok_is_need (Pr := l.prog) (wo := w) (base := base) (mg := mg) F_is_need g_is_whole k_is_whole b_is_whole G_is_whole
  have G_is_value := ok_is_value (Pr := l.prog) (wo := w) (base := base) (mg := mg) F_is_value g_is_whole k_is_whole b_is_whole G_is_whole
  have G__law_well := ok__law_well (Pr := l.prog) (wo := w) (base := base) (mg := mg) F__law_well g__law_cell_at k__law_cell_at b__law_cell_at G__law_cell_at
  have G__law_rule := ok__law_rule (Pr := l.prog) (wo := w) (base := base) (mg := mg) F__law_rule g__law_draw k__law_draw b__law_draw G__law_draw
  have G__law_odd_number := ok__law_odd_number (Pr := l.prog) (wo := w) (base := base) (mg := mg) F__law_odd_number g__law_draw k__law_draw b__law_draw G__law_draw
  have G__law_thing := ok__law_thing (Pr := l.prog) (wo := w) (base := base) (mg := mg) F__law_thing g__law_draw k__law_draw b__law_draw G__law_draw bI_list
  have G__law_within := ok__law_within (Pr := l.prog) (wo := w) (base := base) (mg := mg) F__law_within g__law_whole k__law_whole b__law_whole G__law_whole
  have G_rule_of := ok_rule_of (Pr := l.prog) (wo := w) (base := base) (mg := mg) F_rule_of T_NoRule T_Plain T_Moved T_Mixed M_Plain lo_Plain bi_Plain Gi_Plain M_Moved lo_Moved bi_Moved Gi_Moved M_Mixed lo_Mixed bi_Mixed Gi_Mixed g_is_whole k_is_whole b_is_whole G_is_whole g_is_need k_is_need b_is_need G_is_need kb_is_need_0_back_cell bI_isinstance bI_tuple bI_len kb_Moved____init___2_add kb_Mixed____init___2_other_back_other_cell
  have G_is_row_of__is_value := ok_is_row_of__is_value (Pr := l.prog) (wo := w) (base := base) (mg := mg) F_is_row_of__is_value g_is_value k_is_value b_is_value G_is_value bI_all bI_isinstance bI_tuple bI_len
  have G__law_leaf := ok__law_leaf (Pr := l.prog) (wo := w) (base := base) (mg := mg) F__law_leaf g__law_draw k__law_draw b__law_draw G__law_draw g__law_rule k__law_rule b__law_rule G__law_rule bI_tuple bI_range
  have G__law_odd_part := ok__law_odd_part (Pr := l.prog) (wo := w) (base := base) (mg := mg) F__law_odd_part g__law_draw k__law_draw b__law_draw G__law_draw g__law_odd_number k__law_odd_number b__law_odd_number G__law_odd_number
  have G__law_is_rule := ok__law_is_rule (Pr := l.prog) (wo := w) (base := base) (mg := mg) F__law_is_rule g__law_within k__law_within b__law_within G__law_within bI_isinstance bI_tuple bI_len bI_str
  have G_is_rule := ok_is_rule (Pr := l.prog) (wo := w) (base := base) (mg := mg) F_is_rule T_NoRule p_NoRule_NoRule g_rule_of k_rule_of b_rule_of G_rule_of
  have G__law_is_leaf := ok__law_is_leaf (Pr := l.prog) (wo := w) (base := base) (mg := mg) F__law_is_leaf g__law_within k__law_within b__law_within G__law_within g__law_is_rule k__law_is_rule b__law_is_rule G__law_is_rule bI_all bI_isinstance bI_tuple bI_len bI_str
  have G_is_row_of__is_rule := ok_is_row_of__is_rule (Pr := l.prog) (wo := w) (base := base) (mg := mg) F_is_row_of__is_rule g_is_rule k_is_rule b_is_rule G_is_rule bI_all bI_isinstance bI_tuple bI_len
  have G_leaf_of := ok_leaf_of (Pr := l.prog) (wo := w) (base := base) (mg := mg) F_leaf_of T_NoLeaf T_Full T_Still T_Woven M_Full lo_Full bi_Full Gi_Full M_Still lo_Still bi_Still Gi_Still M_Woven lo_Woven bi_Woven Gi_Woven g_is_value k_is_value b_is_value G_is_value g_is_whole k_is_whole b_is_whole G_is_whole g_is_rule k_is_rule b_is_rule G_is_rule g_is_row_of__is_value k_is_row_of__is_value b_is_row_of__is_value G_is_row_of__is_value g_is_row_of__is_rule k_is_row_of__is_rule b_is_row_of__is_rule G_is_row_of__is_rule bI_isinstance bI_tuple bI_len kb_Full____init___2_values kb_Still____init___2_back kb_Woven____init___2_rules
  have L_Leaf__told : ∀ C sp, A_Leaf__told K mg C_Full C_Still C_Woven C sp → MAlt l.prog w K mg base CX0 1 "told" C sp := by
    rintro C sp (⟨rfl, rfl⟩ | ⟨rfl, rfl⟩ | ⟨rfl, rfl⟩)
    · exact ⟨_, _, _, T_Full.c, ⟨a_Full__told, fn_Full__told, k_Full__told⟩, G_Full__told.mono (by decide), b_Full__told⟩
    · exact ⟨_, _, _, T_Still.c, ⟨a_Still__told, fn_Still__told, k_Still__told⟩, G_Still__told.mono (by decide), b_Still__told⟩
    · exact ⟨_, _, _, T_Woven.c, ⟨a_Woven__told, fn_Woven__told, k_Woven__told⟩, G_Woven__told.mono (by decide), b_Woven__told⟩
  have G__law_asked := ok__law_asked (Pr := l.prog) (wo := w) (base := base) (mg := mg) F__law_asked T_ScrollError T_NoLeaf T_NoRule T_NoCell T_NoNumber T_NoFilm p_NoLeaf_NoCell p_NoLeaf_NoFilm p_NoLeaf_NoLeaf p_NoLeaf_NoNumber p_NoLeaf_NoRule p_NoLeaf_ScrollError T_Leaf T_Full T_Mixed T_Moved T_Plain T_Still T_Woven p_Woven_Leaf p_Still_Leaf p_Plain_Leaf p_Moved_Leaf p_Mixed_Leaf p_Full_Leaf L_Leaf__told g__law_is_leaf k__law_is_leaf b__law_is_leaf G__law_is_leaf g_leaf_of k_leaf_of b_leaf_of G_leaf_of bI_isinstance bI_ValueError
  have G__law_changed := ok__law_changed (Pr := l.prog) (wo := w) (base := base) (mg := mg) F__law_changed g__law_draw k__law_draw b__law_draw G__law_draw g__law_odd_number k__law_odd_number b__law_odd_number G__law_odd_number g__law_odd_part k__law_odd_part b__law_odd_part G__law_odd_part g__law_changed k__law_changed b__law_changed bI_isinstance bI_tuple bI_len bI_list
  have G_law := ok_law (Pr := l.prog) (wo := w) (base := base) (mg := mg) F_law g__law_leaf k__law_leaf b__law_leaf G__law_leaf g__law_well k__law_well b__law_well G__law_well g__law_draw k__law_draw b__law_draw G__law_draw g__law_changed k__law_changed b__law_changed G__law_changed g__law_asked k__law_asked b__law_asked G__law_asked g__law_thing k__law_thing b__law_thing G__law_thing bI_list
  exact G_law.imp fun vs H Q E h => top_of law_ok h
end A
open PySem PySem.W PyProof.Rows
set_option maxRecDepth 100000 in
set_option maxHeartbeats 0 in
theorem PySem.Challenge.cw_lanescroll_k07_no_leaves_holds : PySem.Challenge.rw_lanescroll_k07_no_leaves.Holds := by
  w_on; o_law; k_head; (case hw => w_witness2)
  k_fill
  refine Y.walk_top (l := PySem.Challenge.rw_lanescroll_k07_no_leaves) (k := 14) (x := "_law_script") rfl rfl ⟨rfl, by decide, by decide⟩ (fun w h Y => PySem.W.kIn_of Y) ?F
  case F =>
    intro w mg fa h KX G hmg
    refine' A.all_mk KX G hmg ?kca_Plain ?kcpg_Plain ?kchd_Plain ?kcpo_Plain ?kcsa_Plain ?kcha_Plain ?kchm_Plain ?kcty_Plain ?kcis_Plain ?kcself_Plain ?kctbool_Plain ?kctint_Plain ?kctstr_Plain ?kctlist_Plain ?kcttuple_Plain ?kctdict_Plain ?kcmk_Plain ?kckp_Plain ?kca_Moved ?kcpg_Moved ?kchd_Moved ?kcpo_Moved ?kcsa_Moved ?kcha_Moved ?kchm_Moved ?kcty_Moved ?kcis_Moved ?kcself_Moved ?kctbool_Moved ?kctint_Moved ?kctstr_Moved ?kctlist_Moved ?kcttuple_Moved ?kctdict_Moved ?kcmk_Moved ?kckp_Moved ?kca_Mixed ?kcpg_Mixed ?kchd_Mixed ?kcpo_Mixed ?kcsa_Mixed ?kcha_Mixed ?kchm_Mixed ?kcty_Mixed ?kcis_Mixed ?kcself_Mixed ?kctbool_Mixed ?kctint_Mixed ?kctstr_Mixed ?kctlist_Mixed ?kcttuple_Mixed ?kctdict_Mixed ?kcmk_Mixed ?kckp_Mixed ?kca_Leaf ?kcpg_Leaf ?kchd_Leaf ?kcpo_Leaf ?kcsa_Leaf ?kcha_Leaf ?kchm_Leaf ?kcty_Leaf ?kcis_Leaf ?kcself_Leaf ?kctbool_Leaf ?kctint_Leaf ?kctstr_Leaf ?kctlist_Leaf ?kcttuple_Leaf ?kctdict_Leaf ?kca_Full ?kcpg_Full ?kchd_Full ?kcpo_Full ?kcsa_Full ?kcha_Full ?kchm_Full ?kcty_Full ?kcis_Full ?kcself_Full ?kctbool_Full ?kctint_Full ?kctstr_Full ?kctlist_Full ?kcttuple_Full ?kctdict_Full ?kcmk_Full ?kckp_Full ?kca_Still ?kcpg_Still ?kchd_Still ?kcpo_Still ?kcsa_Still ?kcha_Still ?kchm_Still ?kcty_Still ?kcis_Still ?kcself_Still ?kctbool_Still ?kctint_Still ?kctstr_Still ?kctlist_Still ?kcttuple_Still ?kctdict_Still ?kcmk_Still ?kckp_Still ?kca_Woven ?kcpg_Woven ?kchd_Woven ?kcpo_Woven ?kcsa_Woven ?kcha_Woven ?kchm_Woven ?kcty_Woven ?kcis_Woven ?kcself_Woven ?kctbool_Woven ?kctint_Woven ?kctstr_Woven ?kctlist_Woven ?kcttuple_Woven ?kctdict_Woven ?kcmk_Woven ?kckp_Woven ?n_Full_begin ?n_Full_span ?n_Full_worths ?n_Still_begin ?n_Still_span ?n_Still_back ?n_Woven_begin ?n_Woven_span ?n_Woven_rules ?n_Plain_worth ?n_Moved_back ?n_Moved_cell ?n_Moved_add ?n_Mixed_back ?n_Mixed_cell ?n_Mixed_other_back ?n_Mixed_other_cell ?p_Woven_Leaf ?p_Still_Leaf ?p_Plain_Leaf ?p_Moved_Leaf ?p_Mixed_Leaf ?p_Full_Leaf ?a_is_whole ?l_is_whole ?c_is_whole ?k_is_whole ?a_is_need ?l_is_need ?c_is_need ?k_is_need ?a_rule_of ?l_rule_of ?c_rule_of ?k_rule_of ?a_is_value ?l_is_value ?c_is_value ?k_is_value ?a_is_rule ?l_is_rule ?c_is_rule ?k_is_rule ?a_is_row_of ?l_is_row_of ?c_is_row_of ?k_is_row_of ?a_leaf_of ?l_leaf_of ?c_leaf_of ?k_leaf_of ?a__law_cell_at ?l__law_cell_at ?c__law_cell_at ?k__law_cell_at ?a__law_well ?l__law_well ?c__law_well ?k__law_well ?a__law_draw ?l__law_draw ?c__law_draw ?k__law_draw ?a__law_whole ?l__law_whole ?c__law_whole ?k__law_whole ?a__law_rule ?l__law_rule ?c__law_rule ?k__law_rule ?a__law_leaf ?l__law_leaf ?c__law_leaf ?k__law_leaf ?a__law_odd_number ?l__law_odd_number ?c__law_odd_number ?k__law_odd_number ?a__law_odd_part ?l__law_odd_part ?c__law_odd_part ?k__law_odd_part ?a__law_changed ?l__law_changed ?c__law_changed ?k__law_changed ?a__law_thing ?l__law_thing ?c__law_thing ?k__law_thing ?a__law_within ?l__law_within ?c__law_within ?k__law_within ?a__law_is_rule ?l__law_is_rule ?c__law_is_rule ?k__law_is_rule ?a__law_is_leaf ?l__law_is_leaf ?c__law_is_leaf ?k__law_is_leaf ?a__law_asked ?l__law_asked ?c__law_asked ?k__law_asked ?a_law ?l_law ?c_law ?k_law ?a_Plain____init__ ?fn_Plain____init__ ?l_Plain____init__ ?c_Plain____init__ ?k_Plain____init__ ?a_Moved____init__ ?fn_Moved____init__ ?l_Moved____init__ ?c_Moved____init__ ?k_Moved____init__ ?a_Mixed____init__ ?fn_Mixed____init__ ?l_Mixed____init__ ?c_Mixed____init__ ?k_Mixed____init__ ?a_Full__told ?fn_Full__told ?l_Full__told ?c_Full__told ?k_Full__told ?a_Full____init__ ?fn_Full____init__ ?l_Full____init__ ?c_Full____init__ ?k_Full____init__ ?a_Still__told ?fn_Still__told ?l_Still__told ?c_Still__told ?k_Still__told ?a_Still____init__ ?fn_Still____init__ ?l_Still____init__ ?c_Still____init__ ?k_Still____init__ ?a_Woven__told ?fn_Woven__told ?l_Woven__told ?c_Woven__told ?k_Woven__told ?a_Woven____init__ ?fn_Woven____init__ ?l_Woven____init__ ?c_Woven____init__ ?k_Woven____init__ ?a_Leaf____init__ ?fn_Leaf____init__ ?l_Leaf____init__ ?c_Leaf____init__ ?k_Leaf____init__ ?rd_Leaf ?ga_Leaf ?fc_Leaf ?xca_NoRule ?xchg_NoRule ?xchk_NoRule ?xchs_NoRule ?xchd_NoRule ?xcha_NoRule ?xchm_NoRule ?xcty_NoRule ?xckp_NoRule ?xcve_NoRule ?xcis_NoRule ?xcself_NoRule ?xcex_NoRule ?xca_NoLeaf ?xchg_NoLeaf ?xchk_NoLeaf ?xchs_NoLeaf ?xchd_NoLeaf ?xcha_NoLeaf ?xchm_NoLeaf ?xcty_NoLeaf ?xckp_NoLeaf ?xcve_NoLeaf ?xcis_NoLeaf ?xcself_NoLeaf ?xcex_NoLeaf ?xca_ScrollError ?xchg_ScrollError ?xchk_ScrollError ?xchs_ScrollError ?xchd_ScrollError ?xcha_ScrollError ?xchm_ScrollError ?xcty_ScrollError ?xckp_ScrollError ?xcve_ScrollError ?xcis_ScrollError ?xcself_ScrollError ?xcex_ScrollError ?xca_NoCell ?xchg_NoCell ?xchk_NoCell ?xchs_NoCell ?xchd_NoCell ?xcha_NoCell ?xchm_NoCell ?xcty_NoCell ?xckp_NoCell ?xcve_NoCell ?xcis_NoCell ?xcself_NoCell ?xcex_NoCell ?xca_NoNumber ?xchg_NoNumber ?xchk_NoNumber ?xchs_NoNumber ?xchd_NoNumber ?xcha_NoNumber ?xchm_NoNumber ?xcty_NoNumber ?xckp_NoNumber ?xcve_NoNumber ?xcis_NoNumber ?xcself_NoNumber ?xcex_NoNumber ?xca_NoFilm ?xchg_NoFilm ?xchk_NoFilm ?xchs_NoFilm ?xchd_NoFilm ?xcha_NoFilm ?xchm_NoFilm ?xcty_NoFilm ?xckp_NoFilm ?xcve_NoFilm ?xcis_NoFilm ?xcself_NoFilm ?p_NoRule_NoRule ?p_NoLeaf_NoCell ?p_NoLeaf_NoFilm ?p_NoLeaf_NoLeaf ?p_NoLeaf_NoNumber ?p_NoLeaf_NoRule ?p_NoLeaf_ScrollError ?xhn ?xht ?z_isinstance ?z_int ?z_bool ?z_tuple ?z_len ?z_all ?z_range ?z_list ?z_str ?z_ValueError
    (case kca_Plain => k_is)
    (case kcpg_Plain => k_is)
    (case kchd_Plain => k_is)
    (case kcpo_Plain => k_is)
    (case kcsa_Plain => k_is)
    (case kcha_Plain => k_is)
    (case kchm_Plain => k_is)
    (case kcty_Plain => k_is)
    (case kcis_Plain => k_is)
    (case kcself_Plain => k_is)
    (case kctbool_Plain => k_is)
    (case kctint_Plain => k_is)
    (case kctstr_Plain => k_is)
    (case kctlist_Plain => k_is)
    (case kcttuple_Plain => k_is)
    (case kctdict_Plain => k_is)
    (case kcmk_Plain => k_is)
    (case kckp_Plain => k_is)
    (case kca_Moved => k_is)
    (case kcpg_Moved => k_is)
    (case kchd_Moved => k_is)
    (case kcpo_Moved => k_is)
    (case kcsa_Moved => k_is)
    (case kcha_Moved => k_is)
    (case kchm_Moved => k_is)
    (case kcty_Moved => k_is)
    (case kcis_Moved => k_is)
    (case kcself_Moved => k_is)
    (case kctbool_Moved => k_is)
    (case kctint_Moved => k_is)
    (case kctstr_Moved => k_is)
    (case kctlist_Moved => k_is)
    (case kcttuple_Moved => k_is)
    (case kctdict_Moved => k_is)
    (case kcmk_Moved => k_is)
    (case kckp_Moved => k_is)
    (case kca_Mixed => k_is)
    (case kcpg_Mixed => k_is)
    (case kchd_Mixed => k_is)
    (case kcpo_Mixed => k_is)
    (case kcsa_Mixed => k_is)
    (case kcha_Mixed => k_is)
    (case kchm_Mixed => k_is)
    (case kcty_Mixed => k_is)
    (case kcis_Mixed => k_is)
    (case kcself_Mixed => k_is)
    (case kctbool_Mixed => k_is)
    (case kctint_Mixed => k_is)
    (case kctstr_Mixed => k_is)
    (case kctlist_Mixed => k_is)
    (case kcttuple_Mixed => k_is)
    (case kctdict_Mixed => k_is)
    (case kcmk_Mixed => k_is)
    (case kckp_Mixed => k_is)
    (case kca_Leaf => k_is)
    (case kcpg_Leaf => k_is)
    (case kchd_Leaf => k_is)
    (case kcpo_Leaf => k_is)
    (case kcsa_Leaf => k_is)
    (case kcha_Leaf => k_is)
    (case kchm_Leaf => k_is)
    (case kcty_Leaf => k_is)
    (case kcis_Leaf => k_is)
    (case kcself_Leaf => k_is)
    (case kctbool_Leaf => k_is)
    (case kctint_Leaf => k_is)
    (case kctstr_Leaf => k_is)
    (case kctlist_Leaf => k_is)
    (case kcttuple_Leaf => k_is)
    (case kctdict_Leaf => k_is)
    (case kca_Full => k_is)
    (case kcpg_Full => k_is)
    (case kchd_Full => k_is)
    (case kcpo_Full => k_is)
    (case kcsa_Full => k_is)
    (case kcha_Full => k_is)
    (case kchm_Full => k_is)
    (case kcty_Full => k_is)
    (case kcis_Full => k_is)
    (case kcself_Full => k_is)
    (case kctbool_Full => k_is)
    (case kctint_Full => k_is)
    (case kctstr_Full => k_is)
    (case kctlist_Full => k_is)
    (case kcttuple_Full => k_is)
    (case kctdict_Full => k_is)
    (case kcmk_Full => k_is)
    (case kckp_Full => k_is)
    (case kca_Still => k_is)
    (case kcpg_Still => k_is)
    (case kchd_Still => k_is)
    (case kcpo_Still => k_is)
    (case kcsa_Still => k_is)
    (case kcha_Still => k_is)
    (case kchm_Still => k_is)
    (case kcty_Still => k_is)
    (case kcis_Still => k_is)
    (case kcself_Still => k_is)
    (case kctbool_Still => k_is)
    (case kctint_Still => k_is)
    (case kctstr_Still => k_is)
    (case kctlist_Still => k_is)
    (case kcttuple_Still => k_is)
    (case kctdict_Still => k_is)
    (case kcmk_Still => k_is)
    (case kckp_Still => k_is)
    (case kca_Woven => k_is)
    (case kcpg_Woven => k_is)
    (case kchd_Woven => k_is)
    (case kcpo_Woven => k_is)
    (case kcsa_Woven => k_is)
    (case kcha_Woven => k_is)
    (case kchm_Woven => k_is)
    (case kcty_Woven => k_is)
    (case kcis_Woven => k_is)
    (case kcself_Woven => k_is)
    (case kctbool_Woven => k_is)
    (case kctint_Woven => k_is)
    (case kctstr_Woven => k_is)
    (case kctlist_Woven => k_is)
    (case kcttuple_Woven => k_is)
    (case kctdict_Woven => k_is)
    (case kcmk_Woven => k_is)
    (case kckp_Woven => k_is)
    (case n_Full_begin => k_is)
    (case n_Full_span => k_is)
    (case n_Full_worths => k_is)
    (case n_Still_begin => k_is)
    (case n_Still_span => k_is)
    (case n_Still_back => k_is)
    (case n_Woven_begin => k_is)
    (case n_Woven_span => k_is)
    (case n_Woven_rules => k_is)
    (case n_Plain_worth => k_is)
    (case n_Moved_back => k_is)
    (case n_Moved_cell => k_is)
    (case n_Moved_add => k_is)
    (case n_Mixed_back => k_is)
    (case n_Mixed_cell => k_is)
    (case n_Mixed_other_back => k_is)
    (case n_Mixed_other_cell => k_is)
    (case p_Woven_Leaf => k_is)
    (case p_Still_Leaf => k_is)
    (case p_Plain_Leaf => k_is)
    (case p_Moved_Leaf => k_is)
    (case p_Mixed_Leaf => k_is)
    (case p_Full_Leaf => k_is)
    (case a_is_whole => k_is)
    (case l_is_whole => k_is)
    (case c_is_whole => k_is)
    (case k_is_whole => k_is)
    (case a_is_need => k_is)
    (case l_is_need => k_is)
    (case c_is_need => k_is)
    (case k_is_need => k_is)
    (case a_rule_of => k_is)
    (case l_rule_of => k_is)
    (case c_rule_of => k_is)
    (case k_rule_of => k_is)
    (case a_is_value => k_is)
    (case l_is_value => k_is)
    (case c_is_value => k_is)
    (case k_is_value => k_is)
    (case a_is_rule => k_is)
    (case l_is_rule => k_is)
    (case c_is_rule => k_is)
    (case k_is_rule => k_is)
    (case a_is_row_of => k_is)
    (case l_is_row_of => k_is)
    (case c_is_row_of => k_is)
    (case k_is_row_of => k_is)
    (case a_leaf_of => k_is)
    (case l_leaf_of => k_is)
    (case c_leaf_of => k_is)
    (case k_leaf_of => k_is)
    (case a__law_cell_at => k_is)
    (case l__law_cell_at => k_is)
    (case c__law_cell_at => k_is)
    (case k__law_cell_at => k_is)
    (case a__law_well => k_is)
    (case l__law_well => k_is)
    (case c__law_well => k_is)
    (case k__law_well => k_is)
    (case a__law_draw => k_is)
    (case l__law_draw => k_is)
    (case c__law_draw => k_is)
    (case k__law_draw => k_is)
    (case a__law_whole => k_is)
    (case l__law_whole => k_is)
    (case c__law_whole => k_is)
    (case k__law_whole => k_is)
    (case a__law_rule => k_is)
    (case l__law_rule => k_is)
    (case c__law_rule => k_is)
    (case k__law_rule => k_is)
    (case a__law_leaf => k_is)
    (case l__law_leaf => k_is)
    (case c__law_leaf => k_is)
    (case k__law_leaf => k_is)
    (case a__law_odd_number => k_is)
    (case l__law_odd_number => k_is)
    (case c__law_odd_number => k_is)
    (case k__law_odd_number => k_is)
    (case a__law_odd_part => k_is)
    (case l__law_odd_part => k_is)
    (case c__law_odd_part => k_is)
    (case k__law_odd_part => k_is)
    (case a__law_changed => k_is)
    (case l__law_changed => k_is)
    (case c__law_changed => k_is)
    (case k__law_changed => k_is)
    (case a__law_thing => k_is)
    (case l__law_thing => k_is)
    (case c__law_thing => k_is)
    (case k__law_thing => k_is)
    (case a__law_within => k_is)
    (case l__law_within => k_is)
    (case c__law_within => k_is)
    (case k__law_within => k_is)
    (case a__law_is_rule => k_is)
    (case l__law_is_rule => k_is)
    (case c__law_is_rule => k_is)
    (case k__law_is_rule => k_is)
    (case a__law_is_leaf => k_is)
    (case l__law_is_leaf => k_is)
    (case c__law_is_leaf => k_is)
    (case k__law_is_leaf => k_is)
    (case a__law_asked => k_is)
    (case l__law_asked => k_is)
    (case c__law_asked => k_is)
    (case k__law_asked => k_is)
    (case a_law => k_is)
    (case l_law => k_is)
    (case c_law => k_is)
    (case k_law => k_is)
    (case a_Plain____init__ => k_is)
    (case fn_Plain____init__ => k_is)
    (case l_Plain____init__ => k_is)
    (case c_Plain____init__ => k_is)
    (case k_Plain____init__ => k_is)
    (case a_Moved____init__ => k_is)
    (case fn_Moved____init__ => k_is)
    (case l_Moved____init__ => k_is)
    (case c_Moved____init__ => k_is)
    (case k_Moved____init__ => k_is)
    (case a_Mixed____init__ => k_is)
    (case fn_Mixed____init__ => k_is)
    (case l_Mixed____init__ => k_is)
    (case c_Mixed____init__ => k_is)
    (case k_Mixed____init__ => k_is)
    (case a_Full__told => k_is)
    (case fn_Full__told => k_is)
    (case l_Full__told => k_is)
    (case c_Full__told => k_is)
    (case k_Full__told => k_is)
    (case a_Full____init__ => k_is)
    (case fn_Full____init__ => k_is)
    (case l_Full____init__ => k_is)
    (case c_Full____init__ => k_is)
    (case k_Full____init__ => k_is)
    (case a_Still__told => k_is)
    (case fn_Still__told => k_is)
    (case l_Still__told => k_is)
    (case c_Still__told => k_is)
    (case k_Still__told => k_is)
    (case a_Still____init__ => k_is)
    (case fn_Still____init__ => k_is)
    (case l_Still____init__ => k_is)
    (case c_Still____init__ => k_is)
    (case k_Still____init__ => k_is)
    (case a_Woven__told => k_is)
    (case fn_Woven__told => k_is)
    (case l_Woven__told => k_is)
    (case c_Woven__told => k_is)
    (case k_Woven__told => k_is)
    (case a_Woven____init__ => k_is)
    (case fn_Woven____init__ => k_is)
    (case l_Woven____init__ => k_is)
    (case c_Woven____init__ => k_is)
    (case k_Woven____init__ => k_is)
    (case a_Leaf____init__ => k_is)
    (case fn_Leaf____init__ => k_is)
    (case l_Leaf____init__ => k_is)
    (case c_Leaf____init__ => k_is)
    (case k_Leaf____init__ => k_is)
    (case rd_Leaf => k_is)
    (case ga_Leaf => k_is)
    (case fc_Leaf => k_is)
    (case xca_NoRule => k_is)
    (case xchg_NoRule => k_is)
    (case xchk_NoRule => k_is)
    (case xchs_NoRule => k_is)
    (case xchd_NoRule => k_is)
    (case xcha_NoRule => k_is)
    (case xchm_NoRule => k_is)
    (case xcty_NoRule => k_is)
    (case xckp_NoRule => k_is)
    (case xcve_NoRule => k_is)
    (case xcis_NoRule => k_is)
    (case xcself_NoRule => k_is)
    (case xcex_NoRule => k_exc)
    (case xca_NoLeaf => k_is)
    (case xchg_NoLeaf => k_is)
    (case xchk_NoLeaf => k_is)
    (case xchs_NoLeaf => k_is)
    (case xchd_NoLeaf => k_is)
    (case xcha_NoLeaf => k_is)
    (case xchm_NoLeaf => k_is)
    (case xcty_NoLeaf => k_is)
    (case xckp_NoLeaf => k_is)
    (case xcve_NoLeaf => k_is)
    (case xcis_NoLeaf => k_is)
    (case xcself_NoLeaf => k_is)
    (case xcex_NoLeaf => k_exc)
    (case xca_ScrollError => k_is)
    (case xchg_ScrollError => k_is)
    (case xchk_ScrollError => k_is)
    (case xchs_ScrollError => k_is)
    (case xchd_ScrollError => k_is)
    (case xcha_ScrollError => k_is)
    (case xchm_ScrollError => k_is)
    (case xcty_ScrollError => k_is)
    (case xckp_ScrollError => k_is)
    (case xcve_ScrollError => k_is)
    (case xcis_ScrollError => k_is)
    (case xcself_ScrollError => k_is)
    (case xcex_ScrollError => k_exc)
    (case xca_NoCell => k_is)
    (case xchg_NoCell => k_is)
    (case xchk_NoCell => k_is)
    (case xchs_NoCell => k_is)
    (case xchd_NoCell => k_is)
    (case xcha_NoCell => k_is)
    (case xchm_NoCell => k_is)
    (case xcty_NoCell => k_is)
    (case xckp_NoCell => k_is)
    (case xcve_NoCell => k_is)
    (case xcis_NoCell => k_is)
    (case xcself_NoCell => k_is)
    (case xcex_NoCell => k_exc)
    (case xca_NoNumber => k_is)
    (case xchg_NoNumber => k_is)
    (case xchk_NoNumber => k_is)
    (case xchs_NoNumber => k_is)
    (case xchd_NoNumber => k_is)
    (case xcha_NoNumber => k_is)
    (case xchm_NoNumber => k_is)
    (case xcty_NoNumber => k_is)
    (case xckp_NoNumber => k_is)
    (case xcve_NoNumber => k_is)
    (case xcis_NoNumber => k_is)
    (case xcself_NoNumber => k_is)
    (case xcex_NoNumber => k_exc)
    (case xca_NoFilm => k_is)
    (case xchg_NoFilm => k_is)
    (case xchk_NoFilm => k_is)
    (case xchs_NoFilm => k_is)
    (case xchd_NoFilm => k_is)
    (case xcha_NoFilm => k_is)
    (case xchm_NoFilm => k_is)
    (case xcty_NoFilm => k_is)
    (case xckp_NoFilm => k_is)
    (case xcve_NoFilm => k_is)
    (case xcis_NoFilm => k_is)
    (case xcself_NoFilm => k_is)
    (case p_NoRule_NoRule => k_is)
    (case p_NoLeaf_NoCell => k_is)
    (case p_NoLeaf_NoFilm => k_is)
    (case p_NoLeaf_NoLeaf => k_is)
    (case p_NoLeaf_NoNumber => k_is)
    (case p_NoLeaf_NoRule => k_is)
    (case p_NoLeaf_ScrollError => k_is)
    (case xhn => k_is)
    (case xht => k_is)
    (case z_isinstance => k_is)
    (case z_int => k_is)
    (case z_bool => k_is)
    (case z_tuple => k_is)
    (case z_len => k_is)
    (case z_all => k_is)
    (case z_range => k_is)
    (case z_list => k_is)
    (case z_str => k_is)
    (case z_ValueError => k_is)
