import PyProof.Rows.All
import Wide.All
import OpenK.AllK
import Wide.FinOn
import HandS.ForMost
import HandS.Evl
import HandS.IsInst
import HandS.Flow
import HandS.Defaults
import HandS.Wide
import HandS.WideMore
import HandS.Style
import HandS.ForExc
import HandS.TryOnly
import HandS.CallSlots
import HandS.ExcIs
import HandS.Walk
import HandS.Iter
import HandS.More
import HandS.TryMany
import HandS.ClsMeth
import HandS.TupAny
import HandS.SortKw
import HandS.WideBits
import HandS.Deep
import PyProof.Rows.FactsN_divmod
import PySem.Challenge.RW_lanescroll_k12_what_is_no_edit
set_option Elab.async false
set_option linter.all false
set_option maxRecDepth 100000
set_option maxHeartbeats 2000000
namespace Y
open PySem PySem.Spec PyProof.Rows
open L2

/-- data: what a value stands for, through the heap -/
inductive D where
  | non | bl (b : Bool) | int (i : Int) | str (x : Str)
  | lst (ds : List D) | tup (ds : List D) | dic (kvs : List (Key × D))
  | obj (nm : Str) (fs : List (Str × D))

/-- a class of the text: its name, its address; what isinstance asks -/
structure KC (K : PySem.W.Frag) (nm : Str) (C : Addr) : Prop where
  a : PySem.W.nsIn K mainGlobals nm = some (some (.ref C))
  c : Cls K C
  ha : PySem.W.findIn K (.ref C) "__class__" = some (some (.builtin "object.__class__"))
  hn : PySem.W.specialIn K (.builtin "object.__class__") "__get__" = some (some (.builtin "getset_descriptor.__get__"))
  ht : PySem.W.takesIn K (.builtin "object.__class__") = some true
  hm : PySem.W.mroIn K C (.type "object") = some true
  bt : ∀ t ∈ ["bool", "int", "str", "list", "tuple", "dict"], PySem.W.subIn K (.ref C) (.type t) = some false

abbrev Ex (H H' : Hp) : Prop := ∀ a o, H a = some o → H' a = some o
theorem Ex.refl (H : Hp) : Ex H H := fun _ _ h => h
theorem Ex.trans {H H1 H2 : Hp} (a : Ex H H1) (b : Ex H1 H2) : Ex H H2 := fun x o h => b x o (a x o h)
theorem Ex.new {H : Hp} {p : Addr} {o : HO} (h : H p = none) : Ex H (upd H p o) := fun a u e => by
  rw [upd_ne (ne_of_none e h)]
  exact e
theorem Ex.upd {B H : Hp} {p : Addr} {o : HO} (e : Ex B H) (h : B p = none) : Ex B (upd H p o) := fun a u ha => by
  rw [upd_ne (ne_of_none ha h)]
  exact e a u ha
theorem Ex.both {B H : Hp} {p : Addr} {o : HO} (e : Ex B H) : Ex (L2.upd B p o) (L2.upd H p o) := fun a u ha => by
  by_cases q : a = p
  · subst q; rw [upd_same] at ha; cases ha; exact upd_same
  · rw [upd_ne q] at ha; rw [upd_ne q]; exact e a u ha
theorem Ex.none {H H' : Hp} {p : Addr} (e : Ex H H') (h : H' p = none) : H p = none := by
  cases h1 : H p with
  | none => rfl
  | some o => rw [e p o h1] at h; cases h
theorem Ex.rd {H H' : Hp} {a : Addr} {u : HO} (e : Ex H H') (h : Rd H a u) : Rd H' a u := by
  rcases h with h | ⟨o, h⟩
  · exact Or.inl (e a _ h)
  · exact Or.inr ⟨o, e a _ h⟩
theorem Ex.l {K : PySem.W.Frag} {H H' : Hp} {a : Addr} {xs : List V} (e : Ex H H') (h : SqL K H a xs) : SqL K H' a xs := by
  rcases h with h | h
  · exact Or.inl (e.rd h)
  · exact Or.inr h
theorem Ex.t {K : PySem.W.Frag} {H H' : Hp} {a : Addr} {xs : List V} (e : Ex H H') (h : SqT K H a xs) : SqT K H' a xs := by
  rcases h with h | h
  · exact Or.inl (e.rd h)
  · exact Or.inr h

mutual
/-- v stands for d -/
inductive Rep (K : PySem.W.Frag) (B : Hp) : V → D → Prop where
  | non : Rep K B .non .non
  | bl (b : Bool) : Rep K B (.bl b) (.bl b)
  | int (i : Int) : Rep K B (.int i) (.int i)
  | str (x : Str) : Rep K B (.str x) (.str x)
  | lst {p : Addr} {xs : List V} {ds : List D} (h : SqL K B p xs) (r : RepL K B xs ds) : Rep K B (.ref p) (.lst ds)
  | tup {p : Addr} {xs : List V} {ds : List D} (h : SqT K B p xs) (r : RepL K B xs ds) : Rep K B (.ref p) (.tup ds)
  | dic {p : Addr} {kvs : List (Key × V)} {ds : List (Key × D)} (h : B p = some (.dK kvs)) (r : RepK K B kvs ds) : Rep K B (.ref p) (.dic ds)
  | obj {p C dx : Addr} {nm : Str} {fs : List (Str × V)} {ds : List (Str × D)} (h : B p = some (.ins C dx fs)) (k : KC K nm C) (r : RepF K B fs ds) : Rep K B (.ref p) (.obj nm ds)
inductive RepL (K : PySem.W.Frag) (B : Hp) : List V → List D → Prop where
  | nil : RepL K B [] []
  | cons {v : V} {d : D} {vs : List V} {ds : List D} (h : Rep K B v d) (t : RepL K B vs ds) : RepL K B (v :: vs) (d :: ds)
inductive RepK (K : PySem.W.Frag) (B : Hp) : List (Key × V) → List (Key × D) → Prop where
  | nil : RepK K B [] []
  | cons {k : Key} {v : V} {d : D} {vs : List (Key × V)} {ds : List (Key × D)} (h : Rep K B v d) (t : RepK K B vs ds) : RepK K B ((k, v) :: vs) ((k, d) :: ds)
inductive RepF (K : PySem.W.Frag) (B : Hp) : List (Str × V) → List (Str × D) → Prop where
  | nil : RepF K B [] []
  | cons {k : Str} {v : V} {d : D} {vs : List (Str × V)} {ds : List (Str × D)} (h : Rep K B v d) (t : RepF K B vs ds) : RepF K B ((k, v) :: vs) ((k, d) :: ds)
end
section
variable {K : PySem.W.Frag} {B B' H : Hp}
mutual
theorem Rep.mono (e : Ex B B') : ∀ {v : V} {d : D}, Rep K B v d → Rep K B' v d
  | _, _, .non => .non
  | _, _, .bl b => .bl b
  | _, _, .int i => .int i
  | _, _, .str x => .str x
  | _, _, .lst h r => .lst (e.l h) (RepL.mono e r)
  | _, _, .tup h r => .tup (e.t h) (RepL.mono e r)
  | _, _, .dic h r => .dic (e _ _ h) (RepK.mono e r)
  | _, _, .obj h k r => .obj (e _ _ h) k (RepF.mono e r)
theorem RepL.mono (e : Ex B B') : ∀ {vs : List V} {ds : List D}, RepL K B vs ds → RepL K B' vs ds
  | _, _, .nil => .nil
  | _, _, .cons h t => .cons (Rep.mono e h) (RepL.mono e t)
theorem RepK.mono (e : Ex B B') : ∀ {vs : List (Key × V)} {ds : List (Key × D)}, RepK K B vs ds → RepK K B' vs ds
  | _, _, .nil => .nil
  | _, _, .cons h t => .cons (Rep.mono e h) (RepK.mono e t)
theorem RepF.mono (e : Ex B B') : ∀ {vs : List (Str × V)} {ds : List (Str × D)}, RepF K B vs ds → RepF K B' vs ds
  | _, _, .nil => .nil
  | _, _, .cons h t => .cons (Rep.mono e h) (RepF.mono e t)
end
theorem RepL.length : ∀ {vs : List V} {ds : List D}, RepL K B vs ds → vs.length = ds.length
  | _, _, .nil => rfl
  | _, _, .cons _ t => congrArg Nat.succ (RepL.length t)
theorem RepL.get : ∀ {vs : List V} {ds : List D} {i : Nat} {d : D}, RepL K B vs ds → ds[i]? = some d → ∃ v, vs[i]? = some v ∧ Rep K B v d
  | _, _, _, _, .nil, e => by simp at e
  | _, _, 0, _, .cons r _, e => by simp at e; subst e; exact ⟨_, rfl, r⟩
  | _, _, i + 1, x, .cons _ t, e => by
    obtain ⟨u, h1, h2⟩ := RepL.get (i := i) (d := x) t (by simpa using e)
    exact ⟨u, by simpa using h1, h2⟩
theorem RepL.append : ∀ {vs ws : List V} {ds es : List D}, RepL K B vs ds → RepL K B ws es → RepL K B (vs ++ ws) (ds ++ es)
  | _, _, _, _, .nil, s => s
  | _, _, _, _, .cons r t, s => .cons r (RepL.append t s)
theorem RepL.at {vs : List V} {ds : List D} {i : Int} {d : D} (r : RepL K B vs ds) (h : atI ds i = some d) : ∃ v, atI vs i = some v ∧ Rep K B v d := by
  unfold atI at h ⊢
  rw [r.length]
  cases e : ixN ds.length i with
  | none => rw [e] at h; cases h
  | some j => rw [e] at h; exact r.get h
theorem RepL.ints : ∀ (ns : List Int), RepL K B (ns.map V.int) (ns.map D.int)
  | [] => .nil
  | n :: r => .cons (.int n) (RepL.ints r)
theorem RepL.of_ints : ∀ {vs : List V} {ns : List Int}, RepL K B vs (ns.map D.int) → vs = ns.map V.int
  | [], [], _ => rfl
  | _ :: _, [], r => nomatch r
  | [], _ :: _, r => nomatch r
  | v :: vs, n :: ns, r => by
    cases r with
    | cons h t =>
      cases h
      rw [RepL.of_ints t]
      rfl
end

/-- from (B, H), what is known and the heap, to (B', H'), writing at most at W -/
structure Stp (W : List Addr) (B H B' H' : Hp) : Prop where
  ex : Ex B B'
  ok : Ex B' H'
  fr : ∀ a o, a ∉ W → H a = some o → H' a = some o
  al : ∀ a o, H a = some o → ∃ o', H' a = some o'
  nw : ∀ a o, B a = none → H a = some o → B' a = none
section
variable {W W' : List Addr} {B H B' H' B1 H1 B2 H2 : Hp} {p : Addr} {o : HO}
theorem Stp.refl (w : Ex B H) : Stp W B H B H := ⟨Ex.refl B, w, fun _ _ _ h => h, fun _ o h => ⟨o, h⟩, fun _ _ h _ => h⟩
theorem Stp.trans (a : Stp W B H B1 H1) (b : Stp W B1 H1 B2 H2) : Stp W B H B2 H2 :=
  ⟨a.ex.trans b.ex, b.ok, fun x o hx h => b.fr x o hx (a.fr x o hx h), fun x o h => let ⟨o1, h1⟩ := a.al x o h; b.al x o1 h1, fun x o hb h => let ⟨o1, h1⟩ := a.al x o h; b.nw x o1 (a.nw x o hb h) h1⟩
theorem Stp.w (a : Stp W B H B1 H1) (h : ∀ x, x ∈ W → x ∈ W') : Stp W' B H B1 H1 := ⟨a.ex, a.ok, fun x o hx e => a.fr x o (fun z => hx (h x z)) e, a.al, a.nw⟩
theorem Stp.w0 (a : Stp [] B H B1 H1) : Stp W B H B1 H1 := a.w fun _ h => nomatch h
/-- a new object that stays -/
theorem Stp.new (w : Ex B H) (h : H p = none) : Stp W B H (upd B p o) (upd H p o) :=
  ⟨Ex.new (w.none h), w.both, fun a u _ e => Ex.new h a u e, fun a u e => ⟨u, Ex.new h a u e⟩, fun a u hb e => by rw [upd_ne (ne_of_none e h)]; exact hb⟩
/-- a new object that may change -/
theorem Stp.newM (w : Ex B H) (h : H p = none) : Stp W B H B (upd H p o) :=
  ⟨Ex.refl B, w.upd (w.none h), fun a u _ e => Ex.new h a u e, fun a u e => ⟨u, Ex.new h a u e⟩, fun a u hb _ => hb⟩
/-- a changed object of W -/
theorem Stp.set (w : Ex B H) (hp : p ∈ W) (hb : B p = none) {u : HO} (hu : H p = some u) : Stp W B H B (upd H p o) :=
  ⟨Ex.refl B, w.upd hb, fun a u hx e => by rw [upd_ne (fun z => hx (by rw [z]; exact hp))]; exact e, fun a u e => by
    by_cases q : a = p
    · subst q; exact ⟨o, upd_same⟩
    · exact ⟨u, by rw [upd_ne q]; exact e⟩, fun _ _ h _ => h⟩
/-- an object of our own, made behind the entry, changed -/
theorem Stp.own (a : Stp W B H B1 H1) (h0 : H p = none) (hb : B1 p = none) (h : ∃ u, H1 p = some u) : Stp W B H B1 (upd H1 p o) :=
  ⟨a.ex, a.ok.upd hb, fun x u hx e => by rw [upd_ne (ne_of_none e h0)]; exact a.fr x u hx e, fun x u e => by
    rw [upd_ne (ne_of_none e h0)]; exact a.al x u e, a.nw⟩
/-- an object of our own turns into one that stays -/
theorem Stp.keep (w : Ex B H) (a : Stp W B H B1 H1) (h0 : H p = none) (hb : B1 p = none) (h : H1 p = some o) : Stp W B H (upd B1 p o) H1 :=
  ⟨fun x u e => by rw [upd_ne (ne_of_none e (w.none h0))]; exact a.ex x u e, fun x u e => by
    by_cases q : x = p
    · subst q; rw [upd_same] at e; cases e; exact h
    · rw [upd_ne q] at e; exact a.ok x u e, a.fr, a.al, fun x u hb e => by rw [upd_ne (ne_of_none e h0)]; exact a.nw x u hb e⟩
end
/-! ### mirrors -/
/-- an error that is raised: the class's name, what it is told -/
structure Err where
  cls : Str
  args : List D := []
/-- what a mirror gives: a value, an error, or a place that the model does not serve -/
inductive Res (α : Type) where
  | ok (a : α) | err (e : Err) | stuck
def Res.bind {α β : Type} (m : Res α) (k : α → Res β) : Res β := match m with | .ok a => k a | .err e => .err e | .stuck => .stuck
/-- an error that nobody waits for -/
def Res.noErr {α : Type} (m : Res α) : Res α := match m with | .ok a => .ok a | _ => .stuck
instance : Monad Res where
  pure := Res.ok
  bind := Res.bind
def Post0 {α : Type} (m : Res α) (P : α → Prop) (R : Err → Prop) : Prop := match m with | .ok a => P a | .err e => R e | .stuck => False
/-- what the mirror gives is wished for: a structure, so that nothing looks into it -/
structure Post {α : Type} (m : Res α) (P : α → Prop) (R : Err → Prop) : Prop where
  h0 : Post0 m P R
section
variable {α β : Type} {m : Res α} {P P' : α → Prop} {R R' : Err → Prop} {a : α}
theorem Post.mono (h : Post m P R) (hp : ∀ a, P a → P' a) (hr : ∀ e, R e → R' e) : Post m P' R' := by
  obtain ⟨h⟩ := h
  refine ⟨?_⟩
  cases m with
  | ok a => exact hp a h
  | err e => exact hr e h
  | stuck => exact h
theorem Post.bind {k : α → Res β} {P : β → Prop} (h : Post (m.bind k) P R) : Post m (fun a => Post (k a) P R) R := by
  obtain ⟨h⟩ := h
  refine ⟨?_⟩
  cases m
  · exact ⟨h⟩
  · exact h
  · exact h
theorem Post.noErr (h : Post m.noErr P R) : Post m P (fun _ => False) := by
  obtain ⟨h⟩ := h
  refine ⟨?_⟩
  cases m with
  | ok a => exact h
  | err e => exact h
  | stuck => exact h
theorem Post.ok (h : Post (.ok a) P R) : P a := h.h0
theorem Post.err {e : Err} (h : Post (.err e : Res α) P R) : R e := h.h0
theorem Post.elim {C : Prop} (h : Post (.stuck : Res α) P R) : C := False.elim h.h0
theorem Post.mk' (h : P a) : Post (.ok a) P R := ⟨h⟩
theorem Post.iteT {c : Bool} {m m' : Res α} (h : Post (if c = true then m else m') P R) (hc : c = true) : Post m P R := by
  rw [if_pos hc] at h; exact h
theorem Post.iteF {c : Bool} {m m' : Res α} (h : Post (if c = true then m else m') P R) (hc : c = false) : Post m' P R := by
  rw [hc, if_neg Bool.false_ne_true] at h; exact h
theorem Post.is {m' : Res α} (h : Post m P R) (e : m = m') : Post m' P R := e ▸ h
end
/-- an item -/
def ixR {α : Type} (l : List α) (i : Int) : Res α := match atI l i with | some x => .ok x | none => .stuck
theorem Post.ix {α β : Type} {l : List α} {i : Int} {k : α → Res β} {P : β → Prop} {R : Err → Prop} (h : Post ((ixR l i).bind k) P R) : ∃ x, atI l i = some x ∧ Post (k x) P R := by
  unfold ixR at h
  cases e : atI l i with
  | none => rw [e] at h; exact h.elim
  | some x => rw [e] at h; exact ⟨x, rfl, h⟩
/-- where c holds -/
def guardR {α : Type} (c : Prop) [Decidable c] (m : Res α) : Res α := if c then m else .stuck
theorem Post.guard {α : Type} {c : Prop} [Decidable c] {m : Res α} {P : α → Prop} {R : Err → Prop} (h : Post (guardR c m) P R) : c ∧ Post m P R := by
  unfold guardR at h
  by_cases e : c
  · rw [if_pos e] at h; exact ⟨e, h⟩
  · rw [if_neg e] at h; exact h.elim
instance (i j : Int) : Decidable (CMulW i j) := by unfold CMulW; infer_instance
instance (i j : Int) : Decidable (CDivW i j) := by unfold CDivW; infer_instance
/-- a loop's turn: on, or a value that is returned, or out -/
inductive Fl (S R : Type) where
  | nx (s : S) | rt (r : R) | bk (s : S)
def forR {α S R : Type} : List α → S → (α → S → Res (Fl S R)) → Res (Fl S R)
  | [], s, _ => .ok (.nx s)
  | x :: xs, s, f => (f x s).bind fun r => match r with | .nx s' => forR xs s' f | r => .ok r
theorem Post.forS {α S R : Type} {l : List α} {i : Nat} {s : S} {f : α → S → Res (Fl S R)} {P : Fl S R → Prop} {E : Err → Prop} {x : α} (h : Post (forR (l.drop i) s f) P E) (hx : l[i]? = some x) :
    Post (f x s) (fun r => match r with | .nx s' => Post (forR (l.drop (i + 1)) s' f) P E | .rt v => P (.rt v) | .bk s' => P (.bk s')) E := by
  obtain ⟨hi, e⟩ := List.getElem?_eq_some_iff.mp hx
  rw [List.drop_eq_getElem_cons hi, e] at h
  exact (Post.bind h).mono (fun r q => by
    cases r
    · exact q
    · exact q.ok
    · exact q.ok) fun _ q => q
theorem Post.forN {α S R : Type} {l : List α} {i : Nat} {s : S} {f : α → S → Res (Fl S R)} {P : Fl S R → Prop} {E : Err → Prop} (h : Post (forR (l.drop i) s f) P E) (hi : l.length ≤ i) : P (.nx s) := by
  rw [List.drop_eq_nil_of_le hi] at h
  exact h.ok

/-! ### what stands for data -/
class Enc (α : Type) where
  enc : α → D
open Enc (enc)
structure Tp1 (α : Type) where
  a : α
structure Tp2 (α β : Type) where
  a : α
  b : β
structure Tp3 (α β γ : Type) where
  a : α
  b : β
  c : γ
structure Tp4 (α β γ δ : Type) where
  a : α
  b : β
  c : γ
  d : δ
structure Tp5 (α β γ δ ε : Type) where
  a : α
  b : β
  c : γ
  d : δ
  e : ε
instance : Enc Int := ⟨.int⟩
instance : Enc Bool := ⟨.bl⟩
instance : Enc Str := ⟨.str⟩
instance : Enc Unit := ⟨fun _ => .non⟩
instance : Enc D := ⟨id⟩
instance {α : Type} [Enc α] : Enc (List α) := ⟨fun l => .lst (l.map enc)⟩
instance {α : Type} [Enc α] : Enc (Option α) := ⟨fun o => match o with | some x => enc x | none => .non⟩
instance {α : Type} [Enc α] : Enc (Tp1 α) := ⟨fun t => .tup [enc t.a]⟩
instance {α β : Type} [Enc α] [Enc β] : Enc (Tp2 α β) := ⟨fun t => .tup [enc t.a, enc t.b]⟩
instance {α β γ : Type} [Enc α] [Enc β] [Enc γ] : Enc (Tp3 α β γ) := ⟨fun t => .tup [enc t.a, enc t.b, enc t.c]⟩
instance {α β γ δ : Type} [Enc α] [Enc β] [Enc γ] [Enc δ] : Enc (Tp4 α β γ δ) := ⟨fun t => .tup [enc t.a, enc t.b, enc t.c, enc t.d]⟩
instance {α β γ δ ε : Type} [Enc α] [Enc β] [Enc γ] [Enc δ] [Enc ε] : Enc (Tp5 α β γ δ ε) := ⟨fun t => .tup [enc t.a, enc t.b, enc t.c, enc t.d, enc t.e]⟩

/-- a list that may change: at p, outside of what is known for good -/
def Mu (K : PySem.W.Frag) (B H : Hp) (p : Addr) (ds : List D) : Prop := B p = none ∧ ∃ xs, H p = some (.lst xs) ∧ RepL K B xs ds
/-- a list that stands in the written part -/
def KL (K : PySem.W.Frag) (a : Addr) (xs : List V) : Prop := ∃ (o : Obj) (its : Array Value) (n : Nat), K.lookup a = some o ∧ o.cls = .type "list" ∧ o.dict = none ∧ o.data = .seq its n ∧ its.size ≤ sizeLine ∧ Vals xs its.toList
/-- a list that is read: at v now -/
def Bor (K : PySem.W.Frag) (B H : Hp) (W : List Addr) (v : V) (ds : List D) : Prop := ∃ p xs, v = .ref p ∧ ((Rd H p (.lst xs) ∧ p ∉ W) ∨ KL K p xs) ∧ RepL K B xs ds
/-- what a return hands on -/
def Ret (K : PySem.W.Frag) (W : List Addr) (B H : Hp) (d : D) (Q : VK) : Prop := ∀ v B' H', Stp W B H B' H' → Rep K B' v d → Q v H'
/-- .. where the list at p may have changed -/
def RetM (K : PySem.W.Frag) (p : Addr) (B H : Hp) (d : D) (ds : List D) (Q : VK) : Prop := ∀ v B' H', Stp [p] B H B' H' → Mu K B' H' p ds → Rep K B' v d → Q v H'
/-- .. that is raised -/
def Rai (mg : Str → Option Value) (W : List Addr) (B H : Hp) (e : Err) (E : XK) : Prop := ∀ C B' H', mg e.cls = some (.ref C) → Stp W B H B' H' → E (.ref C) none H'
section
variable {K : PySem.W.Frag} {B B' B1 H H' H1 : Hp} {W : List Addr} {p q : Addr} {ds es : List D} {xs : List V} {d : D} {v : V} {Q : VK} {mg : Str → Option Value} {E : XK}
theorem Mu.step (m : Mu K B H p ds) (s : Stp W B H B' H') (h : p ∉ W) : Mu K B' H' p ds := by
  obtain ⟨hb, xs, hp, r⟩ := m
  exact ⟨s.nw p _ hb hp, xs, s.fr p _ h hp, r.mono s.ex⟩
theorem Mu.new (w : Ex B H) (h : H p = none) (r : RepL K B xs ds) : Mu K B (upd H p (.lst xs)) p ds := ⟨w.none h, xs, upd_same, r⟩
theorem Mu.bor (m : Mu K B H p ds) (h : p ∉ W) : Bor K B H W (.ref p) ds := by
  obtain ⟨hb, xs, hp, r⟩ := m
  exact ⟨p, xs, rfl, .inl ⟨.inl hp, h⟩, r⟩
theorem Mu.ne (m : Mu K B H p ds) (h : H q = none) : p ≠ q := by
  obtain ⟨hb, xs, hp, r⟩ := m
  exact ne_of_none hp h
theorem Bor.step (m : Bor K B H W v ds) (s : Stp W B H B' H') : Bor K B' H' W v ds := by
  obtain ⟨p, xs, e, hp, r⟩ := m
  refine ⟨p, xs, e, ?_, r.mono s.ex⟩
  rcases hp with ⟨hp | ⟨o, hp⟩, hw⟩ | hp
  · exact .inl ⟨.inl (s.fr p _ hw hp), hw⟩
  · exact .inl ⟨.inr ⟨o, s.fr p _ hw hp⟩, hw⟩
  · exact .inr hp
theorem Bor.w {W' : List Addr} (m : Bor K B H W v ds) (h : ∀ x, x ∈ W' → x ∈ W) : Bor K B H W' v ds := by
  obtain ⟨p, xs, e, hp, r⟩ := m
  refine ⟨p, xs, e, ?_, r⟩
  rcases hp with ⟨hp, hw⟩ | hp
  · exact .inl ⟨hp, fun z => hw (h p z)⟩
  · exact .inr hp
theorem Bor.sq (m : Bor K B H W v ds) : ∃ p xs, v = .ref p ∧ SqL K H p xs ∧ RepL K B xs ds := by
  obtain ⟨p, xs, e, hp, r⟩ := m
  refine ⟨p, xs, e, ?_, r⟩
  rcases hp with ⟨hp, _⟩ | hp
  · exact .inl hp
  · exact .inr hp
theorem Rep.bor (w : Ex B H) (r : Rep K B v (.lst ds)) (h : ∀ x, x ∈ W → B x = none) : Bor K B H W v ds := by
  cases r with
  | @lst p xs _ hp r =>
    refine ⟨p, xs, rfl, ?_, r⟩
    rcases hp with hp | hp
    · refine .inl ⟨w.rd hp, fun z => ?_⟩
      have e := h p z
      rcases hp with hp | ⟨o, hp⟩
      · rw [hp] at e; cases e
      · rw [hp] at e; cases e
    · exact .inr hp
theorem Rep.bor0 (w : Ex B H) (r : Rep K B v (.lst ds)) : Bor K B H [] v ds := r.bor w (fun _ z => nomatch z)
theorem Rep.sq (w : Ex B H) (r : Rep K B v (.lst ds)) : ∃ p xs, v = .ref p ∧ SqL K H p xs ∧ RepL K B xs ds := by
  cases r with
  | @lst p xs _ hp r => exact ⟨p, xs, rfl, w.l hp, r⟩
theorem Rep.st (w : Ex B H) (r : Rep K B v (.tup ds)) : ∃ p xs, v = .ref p ∧ SqT K H p xs ∧ RepL K B xs ds := by
  cases r with
  | @tup p xs _ hp r => exact ⟨p, xs, rfl, w.t hp, r⟩
theorem Mu.sq (m : Mu K B H p ds) : ∃ xs, H p = some (.lst xs) ∧ SqL K H p xs ∧ RepL K B xs ds := by
  obtain ⟨hb, xs, hp, r⟩ := m
  exact ⟨xs, hp, SqL.of hp, r⟩
theorem Stp.mut (w : Ex B H) (m : Mu K B H p ds) (r : RepL K B xs es) : Stp [p] B H B (upd H p (.lst xs)) ∧ Mu K B (upd H p (.lst xs)) p es := by
  obtain ⟨hb, ys, hp, _⟩ := m
  exact ⟨Stp.set w (by simp) hb hp, hb, xs, upd_same, r⟩
end
/-- the built-in type of a thing -/
def tyD : D → String
  | .non => "NoneType" | .bl _ => "bool" | .int _ => "int" | .str _ => "str" | .lst _ => "list" | .tup _ => "tuple" | .dic _ => "dict" | .obj _ _ => "object"
def isObjD : D → Bool | .obj _ _ => true | _ => false
theorem Rep.ty {K : PySem.W.Frag} {B H : Hp} {v : V} {d : D} (w : Ex B H) (r : Rep K B v d) (hd : isObjD d = false) : TyX K H v (.type (tyD d)) := by
  cases r with
  | obj h k r => exact nomatch hd
  | non => exact .base .non
  | bl b => exact .base (.bl b)
  | int i => exact .base (.int i)
  | str x => exact .base (.str x)
  | lst h r =>
    rcases h with (h | ⟨o, h⟩) | ⟨o, its, n, h, hc, _⟩
    · exact .base (.lst (w _ _ h))
    · exact .base (.frz (w _ _ h))
    · exact .kList h hc
  | tup h r =>
    rcases h with (h | ⟨o, h⟩) | ⟨o, its, n, h, hc, _⟩
    · exact .base (.tup (w _ _ h))
    · exact .fTuple (w _ _ h)
    · exact .kTuple h hc
  | dic h r => exact .base (.dK (w _ _ h))
def isS (s t : String) : Bool := s == t || (s == "bool" && t == "int")
def isA (t : String) (d : D) : Bool := isS (tyD d) t
theorem kit_tab : ∀ s ∈ ["NoneType", "bool", "int", "str", "list", "tuple", "dict"], ∀ t ∈ ["bool", "int", "str", "list", "tuple", "dict"], kitB s t = some (isS s t) := by decide +kernel
theorem tyD_in (d : D) (hd : isObjD d = false) : tyD d ∈ ["NoneType", "bool", "int", "str", "list", "tuple", "dict"] := by
  cases d
  case obj => exact nomatch hd
  all_goals simp [tyD]
theorem isS_obj : ∀ t ∈ ["bool", "int", "str", "list", "tuple", "dict"], isS "object" t = false := by decide +kernel
theorem meta_tab : ∀ t ∈ ["bool", "int", "str", "list", "tuple", "dict"], PySem.W.kitMeta t = true := by decide +kernel
theorem KC.kit {K : PySem.W.Frag} {nm : Str} {C : Addr} (k : KC K nm C) {t : String} (ht : t ∈ ["bool", "int", "str", "list", "tuple", "dict"]) : PySem.W.kitOne K (.ref C) (.type t) = some false := by
  unfold PySem.W.kitOne
  rw [if_neg (by simp)]
  show (if PySem.W.kitMeta t = true then PySem.W.subIn K (.ref C) (.type t) else none) = some false
  rw [if_pos (meta_tab t ht)]
  exact k.bt t ht
theorem KC.tyx {K : PySem.W.Frag} {nm : Str} {C p dx : Addr} {H : Hp} {fs : List (Str × V)} (k : KC K nm C) (h : H p = some (.ins C dx fs)) : TyX K H (.ref p) (.ref C) := .base (.ins h k.c k.ha k.hn k.ht k.hm)
/-- isinstance(x, int | bool | str | list | tuple | dict) -/
theorem isi {K : PySem.W.Frag} {B H : Hp} {v : V} {d : D} {t : String} {Q : VK} (w : Ex B H) (r : Rep K B v d) (q : Q (.bl (isA t d)) H) (ht : t ∈ ["bool", "int", "str", "list", "tuple", "dict"] := by simp) : rIsi K [v, .ty t] H Q := by
  by_cases hd : isObjD d = true
  · cases r with
    | @obj p C dx nm fs ds h k r =>
      have e : isA t (.obj nm ds) = false := isS_obj t ht
      rw [e] at q
      exact ⟨_, .ty t, .ref C, .type t, false, rfl, .ty t, k.tyx (w _ _ h), k.kit ht, q⟩
    | _ => exact nomatch hd
  · have hd := Bool.eq_false_iff.mpr hd
    exact ⟨v, .ty t, _, .type t, isA t d, rfl, .ty t, r.ty w hd, kit_ty (kit_tab _ (tyD_in d hd) _ ht), q⟩
theorem boot_bool : bootBuiltins "bool" = some (.type "bool") := by decide +kernel
theorem boot_int : bootBuiltins "int" = some (.type "int") := by decide +kernel
theorem boot_str : bootBuiltins "str" = some (.type "str") := by decide +kernel
theorem boot_list : bootBuiltins "list" = some (.type "list") := by decide +kernel
theorem boot_tuple : bootBuiltins "tuple" = some (.type "tuple") := by decide +kernel
theorem boot_dict : bootBuiltins "dict" = some (.type "dict") := by decide +kernel

/-! ### readings, step by step -/
def NwL (xs : List V) (H : Hp) (Q : VK) : Prop := ∀ p, H p = none → Q (.ref p) (upd H p (.lst xs))
def NwT (xs : List V) (H : Hp) (Q : VK) : Prop := ∀ p, H p = none → Q (.ref p) (upd H p (.tup xs))
def NewL (xs : List V) (H : Hp) (Q : VK) : Prop := xs.length ≤ sizeLine ∧ NwL xs H Q
def NewT (xs : List V) (H : Hp) (Q : VK) : Prop := xs.length ≤ sizeLine ∧ NwT xs H Q
section
variable {K : PySem.W.Frag} {σ σ' : L2.St} {H : Hp} {Q : VK} {D' : Ends} {te ta tb tc : TE} {tt tt' : TT} {t u z : TS} {tl : TA} {v x y : V} {i j : Int} {n : Nat} {r r' : R2} {W : List Addr}
theorem h_seq (h : t { D' with nx := u D' } σ H) : tSeq t u D' σ H := h
theorem h_set (h : te σ H fun x H1 => u D' (σ.set n (some x)) H1) : tSeq (tAsg te (gName n)) u D' σ H := h
theorem h_set1 (h : te σ H fun x H1 => D'.nx (σ.set n (some x)) H1) : tAsg te (gName n) D' σ H := h
theorem h_nrm {T : L2.St → Hp → Prop} (h : T σ' H) (e : σ' = σ := by rfl) : T σ H := e ▸ h
theorem h_drop (h : te σ H fun _ H1 => D'.nx σ H1) : tDrop te D' σ H := h
theorem h_ret (h : te σ H D'.rt) : tRet te D' σ H := h
theorem h_if {c : TT} (h : c σ H fun b H1 => if b = true then t D' σ H1 else u D' σ H1) : tIfS c t u D' σ H := h
theorem h_next (h : D'.nx σ H) : tNext D' σ H := h
theorem h_nx {a c d : L2.St → Hp → Prop} {b : VK} (h : a σ H) : (Ends.mk a b c d).nx σ H := h
theorem h_var (e : σ[n]? = some (some v)) (h : Q v H) : tVar n σ H Q := ⟨v, e, h⟩
theorem h_c (h : Q v H) : tC v σ H Q := h
theorem h_op (h : ta σ H fun x H1 => tb σ H1 fun y H2 => r x y H2 Q) : tOp r ta tb σ H Q := h
theorem h_I0 {g : Int → Int → V} (h : Q (g i j) H) : rI0 g (.int i) (.int j) H Q := ⟨i, j, rfl, rfl, h⟩
theorem h_I {C : Int → Int → Prop} {g : Int → Int → V} (c : C i j) (h : Q (g i j) H) : rI C g (.int i) (.int j) H Q := ⟨i, j, rfl, rfl, c, h⟩
theorem h_un {f : V → Hp → VK → Prop} (h : ta σ H fun x H1 => f x H1 Q) : tUn f ta σ H Q := h
theorem h_U {g : Int → V} (h : Q (g i) H) : rU g (.int i) H Q := ⟨i, rfl, h⟩
theorem h_eq (s : scal x y = true) (h : Q (.bl (decide (x = y))) H) : rEq x y H Q := ⟨s, h⟩
theorem h_ne (s : scal x y = true) (h : Q (.bl (!decide (x = y))) H) : rNe x y H Q := ⟨s, h⟩
theorem dec_i : decide (V.int i = V.int j) = decide (i = j) := by simp
theorem dec_b {i j : Bool} : decide (V.bl i = V.bl j) = decide (i = j) := by simp
theorem dec_s {i j : Str} : decide (V.str i = V.str j) = decide (i = j) := by simp
theorem h_eqI (h : Q (.bl (decide (i = j))) H) : rEq (.int i) (.int j) H Q := ⟨rfl, by rw [dec_i]; exact h⟩
theorem h_neI (h : Q (.bl (!decide (i = j))) H) : rNe (.int i) (.int j) H Q := ⟨rfl, by rw [dec_i]; exact h⟩
theorem h_eqS {i j : Str} (h : Q (.bl (decide (i = j))) H) : rEq (.str i) (.str j) H Q := ⟨rfl, by rw [dec_s]; exact h⟩
theorem h_neS {i j : Str} (h : Q (.bl (!decide (i = j))) H) : rNe (.str i) (.str j) H Q := ⟨rfl, by rw [dec_s]; exact h⟩
theorem h_eqB {i j : Bool} (h : Q (.bl (decide (i = j))) H) : rEq (.bl i) (.bl j) H Q := ⟨rfl, by rw [dec_b]; exact h⟩
theorem h_neB {i j : Bool} (h : Q (.bl (!decide (i = j))) H) : rNe (.bl i) (.bl j) H Q := ⟨rfl, by rw [dec_b]; exact h⟩
theorem h_chain (h : ta σ H fun x H1 => tb σ H1 fun y H2 => r x y H2 fun z H3 => ∃ k, z = .bl k ∧ (if k = true then tc σ H3 fun w' H4 => r' y w' H4 Q else Q (.bl false) H3)) : tChain r r' ta tb tc σ H Q := h
theorem h_chk {k : Bool} {A : Prop} {w : V} {f : Bool → Prop} (hw : w = .bl k) (h : f k) : ∃ k, w = .bl k ∧ f k := ⟨k, hw, h⟩
theorem h_and (h : ta σ H fun x H1 => ∃ c, x = .bl c ∧ if c = true then tb σ H1 Q else Q (.bl false) H1) : tAndV ta tb σ H Q := h
theorem h_or (h : ta σ H fun x H1 => ∃ c, x = .bl c ∧ if c = true then Q (.bl true) H1 else tb σ H1 Q) : tOrV ta tb σ H Q := h
theorem h_not (h : ta σ H fun x H1 => ∃ c, x = .bl c ∧ Q (.bl (!c)) H1) : tNotV ta σ H Q := h
theorem h_tand {Q : Bool → Hp → Prop} (h : tt σ H fun c H1 => if c = true then tt' σ H1 Q else Q false H1) : tAnd tt tt' σ H Q := h
theorem h_tor {Q : Bool → Hp → Prop} (h : tt σ H fun c H1 => if c = true then Q true H1 else tt' σ H1 Q) : tOr tt tt' σ H Q := h
theorem h_tnot {Q : Bool → Hp → Prop} (h : tt σ H fun c H1 => Q (!c) H1) : tNot tt σ H Q := h
theorem h_test {Q : Bool → Hp → Prop} (h : te σ H fun x H' => ∃ k, x = .bl k ∧ Q k H') : tTest te σ H Q := h
theorem h_tB {Q : Bool → Hp → Prop} (h : te σ H fun x H' => ∃ k, x = .bl k ∧ Q k H') : tB te σ H Q := h
theorem h_bl {b : Bool} {f : Bool → Prop} (h : f b) : ∃ k, V.bl b = .bl k ∧ f k := ⟨b, rfl, h⟩
theorem h_iteT {A B : Prop} (h : A) : if true = true then A else B := by rw [if_pos rfl]; exact h
theorem h_iteF {A B : Prop} (h : B) : if false = true then A else B := by rw [if_neg Bool.false_ne_true]; exact h
theorem h_ite {b : Bool} {A B : Prop} (h1 : b = true → A) (h2 : b = false → B) : if b = true then A else B := by
  cases b
  · exact h_iteF (h2 rfl)
  · exact h_iteT (h1 rfl)
theorem h_ifE {c : TT} (h : c σ H fun b H1 => if b = true then ta σ H1 Q else tb σ H1 Q) : tIf c ta tb σ H Q := h
theorem h_nil {Q : List V → Hp → Prop} (h : Q [] H) : tNil σ H Q := h
theorem h_cons {Q : List V → Hp → Prop} (h : te σ H fun x H1 => tl σ H1 fun xs H2 => Q (x :: xs) H2) : tCons te tl σ H Q := h
theorem h_cb {f : List V → Hp → VK → Prop} (h : tl σ H fun vs H1 => f vs H1 Q) : tCB f tl σ H Q := h
theorem h_call {sp : Sp} {dvs : List V} {E : XK} (h : tl σ H fun vs H1 => sp (vs ++ dvs) H1 Q E) : tCall sp dvs E tl σ H Q := h
theorem h_callS {sp : Sp} {E : L2.St → XK} (h : tl σ H fun vs H1 => sp vs H1 Q (E σ)) : tCallS sp E tl σ H Q := h
theorem h_tup (h : tl σ H fun xs H1 => NewT xs H1 Q) : tTup tl σ H Q := h
theorem h_lst (h : tl σ H fun xs H1 => NewL xs H1 Q) : tLst tl σ H Q := h
theorem h_ixL {p : Addr} {xs : List V} (s : SqL K H p xs) (e : atI xs i = some v) (h : Q v H) : rIxL K (.ref p) (.int i) H Q := ⟨p, xs, i, v, rfl, rfl, s, e, h⟩
theorem h_ixT {p : Addr} {xs : List V} (s : SqT K H p xs) (e : atI xs i = some v) (h : Q v H) : rIxT K (.ref p) (.int i) H Q := ⟨p, xs, i, v, rfl, rfl, s, e, h⟩
end

section
variable {K : PySem.W.Frag} {σ : L2.St} {B B1 B' H H1 H' B0 H0 : Hp} {Q : VK} {W W' : List Addr} {p q : Addr} {xs ys : List V} {ds es : List D} {v : V} {d : D} {i j : Int} {te ta tb : TE}
theorem h_newL (w : Ex B H) (r : RepL K B xs ds) (h : ∀ p B' H', Stp [] B H B' H' → Rep K B' (.ref p) (.lst ds) → Q (.ref p) H') (hn : xs.length ≤ sizeLine) : NewL xs H Q :=
  ⟨hn, fun p hp => h p _ _ (Stp.new w hp) (.lst (SqL.of upd_same) (r.mono (Ex.new (w.none hp))))⟩
theorem h_newT (w : Ex B H) (r : RepL K B xs ds) (h : ∀ p B' H', Stp [] B H B' H' → Rep K B' (.ref p) (.tup ds) → Q (.ref p) H') (hn : xs.length ≤ sizeLine) : NewT xs H Q :=
  ⟨hn, fun p hp => h p _ _ (Stp.new w hp) (.tup (SqT.of upd_same) (r.mono (Ex.new (w.none hp))))⟩
theorem h_newM (w : Ex B H) (r : RepL K B xs ds) (h : ∀ p H', H p = none → Stp [] B H B H' → Mu K B H' p ds → Q (.ref p) H') (hn : xs.length ≤ sizeLine) : NewL xs H Q :=
  ⟨hn, fun p hp => h p _ hp (Stp.newM w hp) (Mu.new w hp r)⟩
theorem h_nwL (w : Ex B H) (r : RepL K B xs ds) (h : ∀ p B' H', Stp [] B H B' H' → Rep K B' (.ref p) (.lst ds) → Q (.ref p) H') : NwL xs H Q :=
  fun p hp => h p _ _ (Stp.new w hp) (.lst (SqL.of upd_same) (r.mono (Ex.new (w.none hp))))
theorem h_nwT (w : Ex B H) (r : RepL K B xs ds) (h : ∀ p B' H', Stp [] B H B' H' → Rep K B' (.ref p) (.tup ds) → Q (.ref p) H') : NwT xs H Q :=
  fun p hp => h p _ _ (Stp.new w hp) (.tup (SqT.of upd_same) (r.mono (Ex.new (w.none hp))))
theorem h_nwM (w : Ex B H) (r : RepL K B xs ds) (h : ∀ p H', H p = none → Stp [] B H B H' → Mu K B H' p ds → Q (.ref p) H') : NwL xs H Q :=
  fun p hp => h p _ hp (Stp.newM w hp) (Mu.new w hp r)
/-- what was free now was free at the entry -/
theorem Stp.nn (s : Stp W B0 H0 B H) (h : H p = none) : H0 p = none := by
  cases e : H0 p with
  | none => rfl
  | some o => obtain ⟨u, q⟩ := s.al p o e; rw [h] at q; cases q
/-- a step that writes at an object of our own -/
theorem Stp.own2 (a : Stp W B0 H0 B H) (s : Stp [p] B H B' H') (h0 : H0 p = none) : Stp W B0 H0 B' H' :=
  ⟨a.ex.trans s.ex, s.ok, fun x u hx e => s.fr x u (fun z => by
      rw [List.mem_singleton.mp z, h0] at e; cases e) (a.fr x u hx e), fun x u e => let ⟨u1, e1⟩ := a.al x u e; s.al x u1 e1, fun x u hb e => let ⟨u1, e1⟩ := a.al x u e; s.nw x u1 (a.nw x u hb e) e1⟩
theorem nm0 : p ∉ ([] : List Addr) := fun z => nomatch z
theorem nm1 (h : p ≠ q) : p ∉ [q] := fun z => h (List.mem_singleton.mp z)
theorem sub0 : ∀ x, x ∈ ([] : List Addr) → x ∈ W := fun _ z => nomatch z
/-- a list of our own is kept as it is -/
theorem Mu.keep (m : Mu K B H p ds) : ∃ B', Ex B B' ∧ (∀ q, q ≠ p → B q = none → B' q = none) ∧ (∀ W B0 H0, Stp W B0 H0 B H → Ex B0 H0 → H0 p = none → Stp W B0 H0 B' H) ∧ Rep K B' (.ref p) (.lst ds) := by
  obtain ⟨hb, xs, hp, r⟩ := m
  exact ⟨upd B p (.lst xs), Ex.new hb, fun q n e => by rw [upd_ne n]; exact e, fun W B0 H0 st w0 h0 => Stp.keep w0 st h0 hb hp, .lst (SqL.of upd_same) (r.mono (Ex.new hb))⟩
/-- a step that writes at what may be written and at objects of our own -/
theorem Stp.go (a : Stp W B0 H0 B H) (s : Stp W' B H B' H') (h : ∀ p, p ∈ W' → p ∈ W ∨ H0 p = none) : Stp W B0 H0 B' H' :=
  ⟨a.ex.trans s.ex, s.ok, fun x u hx e => s.fr x u (fun z => by
      rcases h x z with q | q
      · exact hx q
      · rw [q] at e; cases e) (a.fr x u hx e), fun x u e => let ⟨u1, e1⟩ := a.al x u e; s.al x u1 e1, fun x u hb e => let ⟨u1, e1⟩ := a.al x u e; s.nw x u1 (a.nw x u hb e) e1⟩
theorem go0 {F : Addr → Prop} : ∀ x, x ∈ ([] : List Addr) → F x := fun _ z => nomatch z
theorem go1 {F : Addr → Prop} (h : F p) : ∀ x, x ∈ [p] → F x := fun x z => by rw [List.mem_singleton.mp z]; exact h
theorem go2 {F : Addr → Prop} (h : F p) (h' : F q) : ∀ x, x ∈ [p, q] → F x := fun x z => by
  rcases List.mem_cons.mp z with e | e
  · rw [e]; exact h
  · rw [List.mem_singleton.mp e]; exact h'
theorem go3 {F : Addr → Prop} {r : Addr} (h : F p) (h' : F q) (h2 : F r) : ∀ x, x ∈ [p, q, r] → F x := fun x z => by
  rcases List.mem_cons.mp z with e | e
  · rw [e]; exact h
  · exact go2 h' h2 x e
theorem go4 {F : Addr → Prop} {r r2 : Addr} (h : F p) (h' : F q) (h2 : F r) (h3 : F r2) : ∀ x, x ∈ [p, q, r, r2] → F x := fun x z => by
  rcases List.mem_cons.mp z with e | e
  · rw [e]; exact h
  · exact go3 h' h2 h3 x e
theorem nm2 {r : Addr} (h : p ≠ q) (h' : p ≠ r) : p ∉ [q, r] := fun z => by
  rcases List.mem_cons.mp z with e | e
  · exact h e
  · exact h' (List.mem_singleton.mp e)
theorem nm3 {r r2 : Addr} (h : p ≠ q) (h' : p ≠ r) (h2 : p ≠ r2) : p ∉ [q, r, r2] := fun z => by
  rcases List.mem_cons.mp z with e | e
  · exact h e
  · exact nm2 h' h2 e
theorem nm4 {r r2 r3 : Addr} (h : p ≠ q) (h' : p ≠ r) (h2 : p ≠ r2) (h3 : p ≠ r3) : p ∉ [q, r, r2, r3] := fun z => by
  rcases List.mem_cons.mp z with e | e
  · exact h e
  · exact nm3 h' h2 h3 e
theorem Mu.kp (m : Mu K B H q es) (e : Ex B B') (k : ∀ q, q ≠ p → B q = none → B' q = none) (n : q ≠ p) : Mu K B' H q es := by
  obtain ⟨hb, xs, hp, r⟩ := m
  exact ⟨k q n hb, xs, hp, r.mono e⟩
theorem RepL.atE {α : Type} [Enc α] {l : List α} {x : α} (r : RepL K B xs (l.map enc)) (h : atI l i = some x) : ∃ v, atI xs i = some v ∧ Rep K B v (enc x) := by
  refine r.at ?_
  unfold atI at h ⊢
  rw [List.length_map]
  cases e : ixN l.length i with
  | none => rw [e] at h; cases h
  | some k =>
    rw [e] at h
    show (l.map enc)[k]? = _
    rw [List.getElem?_map, show l[k]? = some x from h]
    rfl
theorem h_pow {k : Int} (e : i ^ j.toNat = k) (c : CPow i j) (h : Q (.int k) H) : rI CPow (fun i j => .int (i ^ j.toNat)) (.int i) (.int j) H Q := ⟨i, j, rfl, rfl, c, by show Q (.int (i ^ j.toNat)) H; rw [e]; exact h⟩
instance (i j : Int) : Decidable (CPow i j) := by unfold CPow; infer_instance
instance (i j : Int) : Decidable (CMul i j) := by unfold CMul; infer_instance
instance (i j : Int) : Decidable (CDiv i j) := by unfold CDiv; infer_instance
def absI (i : Int) : Int := if i < 0 then -i else i
def b2z (b : Bool) : Int := if b then 1 else 0
theorem h_isB {a b : Bool} (h : Q (.bl (decide (a = b))) H) : rIsB (.bl a) (.bl b) H Q := ⟨a, b, rfl, rfl, h⟩
theorem h_isnotB {a b : Bool} (h : Q (.bl (!decide (a = b))) H) : rNotB (.bl a) (.bl b) H Q := ⟨a, b, rfl, rfl, h⟩
def rLenY (K : PySem.W.Frag) : List V → Hp → VK → Prop := fun xs H Q => ∃ p ys, xs = [.ref p] ∧ (SqL K H p ys ∨ SqT K H p ys) ∧ Q (.int ys.length) H
def rAbsY : List V → Hp → VK → Prop := fun xs H Q => ∃ i, xs = [.int i] ∧ Q (.int (if i < 0 then -i else i)) H
def rIntY : List V → Hp → VK → Prop := fun xs H Q => (∃ i, xs = [.int i] ∧ Q (.int i) H) ∨ ∃ k, xs = [.bl k] ∧ Q (.int (if k then 1 else 0)) H
def rStrY : List V → Hp → VK → Prop := fun xs H Q => ∃ i, xs = [.int i] ∧ i.natAbs.log2 < 1920 ∧ Q (.str (toString i)) H
def rListY (K : PySem.W.Frag) : List V → Hp → VK → Prop := fun xs H Q => ∃ p ys, xs = [.ref p] ∧ (SqL K H p ys ∨ SqT K H p ys) ∧ ∀ l, H l = none → Q (.ref l) (upd H l (.lst ys))
def rTupY (K : PySem.W.Frag) : List V → Hp → VK → Prop := fun xs H Q => ∃ p ys, xs = [.ref p] ∧ ((SqL K H p ys ∧ ∀ l, H l = none → Q (.ref l) (upd H l (.tup ys))) ∨ (SqT K H p ys ∧ Q (.ref p) H))
theorem cr_len {X : Cx} : CallR X (.builtin "len") (rLenY X.K) := call_len_seq
theorem cr_abs {X : Cx} : CallR X (.builtin "abs") rAbsY := call_abs
theorem cr_int {X : Cx} : CallR X (.type "int") rIntY := call_int1
theorem cr_str {X : Cx} : CallR X (.type "str") rStrY := call_str_int
theorem cr_list {X : Cx} : CallR X (.type "list") (rListY X.K) := call_list_of
theorem cr_tuple {X : Cx} : CallR X (.type "tuple") (rTupY X.K) := call_tuple_of
theorem h_len {α : Type} [Enc α] {l : List α} (s : SqL K H p xs) (r : RepL K B xs (l.map enc)) (h : Q (.int l.length) H) : rLenY K [V.ref p] H Q := by
  refine ⟨p, xs, rfl, .inl s, ?_⟩
  rw [show xs.length = l.length from by rw [r.length, List.length_map]]
  exact h
theorem h_lenT (s : SqT K H p xs) (r : RepL K B xs ds) (h : Q (.int ds.length) H) : rLenY K [V.ref p] H Q := by
  refine ⟨p, xs, rfl, .inr s, ?_⟩
  rw [r.length]
  exact h
theorem h_abs (h : Q (.int (absI i)) H) : rAbsY [V.int i] H Q := ⟨i, rfl, h⟩
theorem h_intB {b : Bool} (h : Q (.int (b2z b)) H) : rIntY [V.bl b] H Q := .inr ⟨b, rfl, h⟩
theorem h_intI (h : Q (.int i) H) : rIntY [V.int i] H Q := .inl ⟨i, rfl, h⟩
theorem h_str (c : i.natAbs.log2 < 1920) (h : Q (.str (toString i)) H) : rStrY [V.int i] H Q := ⟨i, rfl, c, h⟩
theorem h_listL (s : SqL K H p xs) (h : NwL xs H Q) : rListY K [V.ref p] H Q := ⟨p, xs, rfl, .inl s, h⟩
theorem h_listT (s : SqT K H p xs) (h : NwL xs H Q) : rListY K [V.ref p] H Q := ⟨p, xs, rfl, .inr s, h⟩
theorem h_tupL (s : SqL K H p xs) (h : NwT xs H Q) : rTupY K [V.ref p] H Q := ⟨p, xs, rfl, .inl ⟨s, h⟩⟩
theorem h_iteN {b : Bool} {A C : Prop} (h1 : b = false → A) (h2 : b = true → C) : if (!b) = true then A else C := by
  cases b
  · exact h_iteT (h1 rfl)
  · exact h_iteF (h2 rfl)
theorem h_iteNT {A C : Prop} (h : C) : if (!true) = true then A else C := h_iteF h
theorem h_iteNF {A C : Prop} (h : A) : if (!false) = true then A else C := h_iteT h
theorem Post.iteTn {α : Type} {m m' : Res α} {P : α → Prop} {R : Err → Prop} {c : Bool} (h : Post (if (!c) = true then m else m') P R) (hc : c = false) : Post m P R := by
  rw [hc] at h; exact h
theorem Post.iteFn {α : Type} {m m' : Res α} {P : α → Prop} {R : Err → Prop} {c : Bool} (h : Post (if (!c) = true then m else m') P R) (hc : c = true) : Post m' P R := by
  rw [hc] at h; exact h
end

/-! ### joins, loops, comprehensions, in step with the mirror -/
section
variable {K : PySem.W.Frag} {σ : L2.St} {B B1 B' H H1 H' B0 H0 : Hp} {Q : VK} {W W' : List Addr} {p q : Addr} {xs ys : List V} {ds es : List D} {v : V} {d : D} {t z tb : TS} {te : TE} {c tt : TT} {D' : Ends} {g : TG} {ti : TI}
variable {α β S R' : Type} {P : β → Prop} {R : Err → Prop}
theorem h_joinS {m : Res α} {k : α → Res β} (hP : Post (m.bind k) P R) (J : α → L2.St → Hp → Prop)
    (h1 : ∀ N : L2.St → Hp → Prop, (∀ a σ' H', J a σ' H' → Post (k a) P R → N σ' H') → Post m (fun a => Post (k a) P R) R → t { D' with nx := N } σ H)
    (h2 : ∀ a σ' H', J a σ' H' → Post (k a) P R → z D' σ' H') : tSeq t z D' σ H := h1 _ h2 hP.bind
theorem h_condJ {m : Res Bool} {k : Bool → Res β} {Qb : Bool → Hp → Prop} (hP : Post (m.bind k) P R) (J : Hp → Prop)
    (h1 : ∀ N : Bool → Hp → Prop, (∀ b H', J H' → Post (k b) P R → N b H') → Post m (fun b => Post (k b) P R) R → c σ H N)
    (h2 : ∀ b H', J H' → Post (k b) P R → Qb b H') : c σ H Qb := h1 _ h2 hP.bind
theorem h_exprJ {m : Res α} {k : α → Res β} (hP : Post (m.bind k) P R) (J : α → V → Hp → Prop)
    (h1 : ∀ N : VK, (∀ a v H', J a v H' → Post (k a) P R → N v H') → Post m (fun a => Post (k a) P R) R → te σ H N)
    (h2 : ∀ a v H', J a v H' → Post (k a) P R → Q v H') : te σ H Q := h1 _ h2 hP.bind
theorem h_gname {n : Nat} {Q : L2.St → Hp → Prop} (h : Q (σ.set n (some v)) H) : gName n v σ H Q := h
/-- behind a loop -/
def afterR (k : S → Res β) : Fl S β → Res β
  | .nx s => k s | .rt r => .ok r | .bk s => k s
/-- a join of ways of which some end the def (or the turn) -/
theorem h_joinF {m : Res (Fl S β)} {k : S → Res β} (hP : Post (m.bind (afterR k)) P R) (J : S → L2.St → Hp → Prop)
    (h1 : ∀ (N : L2.St → Hp → Prop) (T : Fl S β → Prop), (∀ a σ' H', J a σ' H' → T (.nx a) → N σ' H') → (∀ r, T (.rt r) → P r) → Post m T R → t { D' with nx := N } σ H)
    (h2 : ∀ a σ' H', J a σ' H' → Post (k a) P R → z D' σ' H') : tSeq t z D' σ H :=
  h1 _ (fun a => Post (afterR k a) P R) (fun a σ' H' j q => h2 a σ' H' j q) (fun _ q => (q : Post (.ok _) P R).ok) hP.bind
/-- what a turn hands on -/
def turnR (l : List α) (f : α → S → Res (Fl S R')) (i : Nat) (P : Fl S R' → Prop) (R : Err → Prop) : Fl S R' → Prop
  | .nx s => Post (forR (l.drop i) s f) P R | .rt r => P (.rt r) | .bk s => P (.bk s)
theorem Post.turn {l : List α} {i : Nat} {s : S} {f : α → S → Res (Fl S R')} {P : Fl S R' → Prop} {x : α} (h : Post (forR (l.drop i) s f) P R) (hx : l[i]? = some x) : Post (f x s) (turnR l f (i + 1) P R) R :=
  (Post.forS h hx).mono (fun r q => by cases r <;> exact q) fun _ q => q

theorem h_forE (h : te σ H fun x H1 => tFor (iList K (tC x)) g tb D' σ H1) : tFor (iList K te) g tb D' σ H := h
theorem h_forL [Enc α] {l : List α} {s0 : S} {f : α → S → Res (Fl S β)} {k : S → Res β} (hP : Post ((forR l s0 f).bind (afterR k)) P R) (hs : SqL K H p xs) (hr : RepL K B xs (l.map enc))
    (J : S → L2.St → Hp → Prop) (h0 : J s0 σ H) (hl : ∀ s σ' H', J s σ' H' → SqL K H' p xs)
    (hb : ∀ (N : L2.St → Hp → Prop) (T : Fl S β → Prop) (x : α) v s σ' H', J s σ' H' → Rep K B v (enc x) → (∀ s' σ2 H2, J s' σ2 H2 → T (.nx s') → N σ2 H2) → (∀ r, T (.rt r) → P r) → (∀ s' σ2 H2, J s' σ2 H2 → T (.bk s') → D'.nx σ2 H2) → Post (f x s) T R →
      g v σ' H' fun σ2 H2 => tb { D' with nx := N, ct := N, bk := D'.nx } σ2 H2)
    (hd : ∀ s σ' H', J s σ' H' → Post (k s) P R → D'.nx σ' H') : tFor (iList K (tC (.ref p))) g tb D' σ H := by
  refine ⟨p, rfl, ⟨xs, hs⟩, for_list (K := K) (a := p) (xs := xs) (fun i σ' H' => ∃ s, J s σ' H' ∧ Post (forR (l.drop i) s f) (fun a => Post (afterR k a) P R) R) ⟨s0, h0, hP.bind⟩ (fun i σ' H' _ ⟨s, j, _⟩ => hl s σ' H' j) ?_ ?_⟩
  · rintro i y σ' H' hi ⟨s, j, q⟩
    obtain ⟨x, hx⟩ : ∃ x, l[i]? = some x := by
      have h1 := (List.getElem?_eq_some_iff.mp hi).1
      rw [hr.length, List.length_map] at h1
      exact ⟨l[i], List.getElem?_eq_getElem h1⟩
    obtain ⟨u, hu, ru⟩ := hr.get (i := i) (d := enc x) (by rw [List.getElem?_map, hx]; rfl)
    rw [hi] at hu; cases hu
    exact hb _ _ x y s σ' H' j ru (fun s' σ2 H2 j2 t2 => ⟨s', j2, t2⟩) (fun r t2 => (t2 : Post (.ok r) P R).ok) (fun s' σ2 H2 j2 t2 => hd s' σ2 H2 j2 t2) (q.turn hx)
  · rintro σ' H' ⟨s, j, q⟩
    exact hd s σ' H' j (q.forN (by rw [hr.length, List.length_map]; exact Nat.le_refl _))
theorem h_forTE (h : te σ H fun x H1 => tFor (iTup K (tC x)) g tb D' σ H1) : tFor (iTup K te) g tb D' σ H := h
theorem h_forT [Enc α] {l : List α} {s0 : S} {f : α → S → Res (Fl S β)} {k : S → Res β} (hP : Post ((forR l s0 f).bind (afterR k)) P R) (hs : SqT K H p xs) (hr : RepL K B xs (l.map enc))
    (J : S → L2.St → Hp → Prop) (h0 : J s0 σ H) (hl : ∀ s σ' H', J s σ' H' → SqT K H' p xs)
    (hb : ∀ (N : L2.St → Hp → Prop) (T : Fl S β → Prop) (x : α) v s σ' H', J s σ' H' → Rep K B v (enc x) → (∀ s' σ2 H2, J s' σ2 H2 → T (.nx s') → N σ2 H2) → (∀ r, T (.rt r) → P r) → (∀ s' σ2 H2, J s' σ2 H2 → T (.bk s') → D'.nx σ2 H2) → Post (f x s) T R →
      g v σ' H' fun σ2 H2 => tb { D' with nx := N, ct := N, bk := D'.nx } σ2 H2)
    (hd : ∀ s σ' H', J s σ' H' → Post (k s) P R → D'.nx σ' H') : tFor (iTup K (tC (.ref p))) g tb D' σ H := by
  refine ⟨p, rfl, ⟨xs, hs⟩, for_tup (K := K) (a := p) (xs := xs) (fun i σ' H' => ∃ s, J s σ' H' ∧ Post (forR (l.drop i) s f) (fun a => Post (afterR k a) P R) R) ⟨s0, h0, hP.bind⟩ (fun i σ' H' _ ⟨s, j, _⟩ => hl s σ' H' j) ?_ ?_⟩
  · rintro i y σ' H' hi ⟨s, j, q⟩
    obtain ⟨x, hx⟩ : ∃ x, l[i]? = some x := by
      have h1 := (List.getElem?_eq_some_iff.mp hi).1
      rw [hr.length, List.length_map] at h1
      exact ⟨l[i], List.getElem?_eq_getElem h1⟩
    obtain ⟨u, hu, ru⟩ := hr.get (i := i) (d := enc x) (by rw [List.getElem?_map, hx]; rfl)
    rw [hi] at hu; cases hu
    exact hb _ _ x y s σ' H' j ru (fun s' σ2 H2 j2 t2 => ⟨s', j2, t2⟩) (fun r t2 => (t2 : Post (.ok r) P R).ok) (fun s' σ2 H2 j2 t2 => hd s' σ2 H2 j2 t2) (q.turn hx)
  · rintro σ' H' ⟨s, j, q⟩
    exact hd s σ' H' j (q.forN (by rw [hr.length, List.length_map]; exact Nat.le_refl _))
/-- the ints from lo on, below hi -/
def rngI (lo hi : Int) : List Int := (List.range (hi - lo).toNat).map fun (i : Nat) => lo + (i : Int)
theorem rngI_get {lo hi : Int} {i : Nat} (h : i < (hi - lo).toNat) : (rngI lo hi)[i]? = some (lo + (i : Int)) := by
  unfold rngI
  rw [List.getElem?_map, List.getElem?_range h]
  rfl
theorem rngI_len {lo hi : Int} : (rngI lo hi).length = (hi - lo).toNat := by
  unfold rngI
  rw [List.length_map, List.length_range]
def Rng1 (vs : List V) (g : TG) (tb : TS) (D' : Ends) (σ : L2.St) (H : Hp) : Prop := tFor (iRng1 (fun _ H Q => Q vs H)) g tb D' σ H
def Rng2 (vs : List V) (g : TG) (tb : TS) (D' : Ends) (σ : L2.St) (H : Hp) : Prop := tFor (iRng2 (fun _ H Q => Q vs H)) g tb D' σ H
theorem h_rng1 {ta : TA} (h : ta σ H fun vs H1 => Rng1 vs g tb D' σ H1) : tFor (iRng1 ta) g tb D' σ H := h
theorem h_rng2 {ta : TA} (h : ta σ H fun vs H1 => Rng2 vs g tb D' σ H1) : tFor (iRng2 ta) g tb D' σ H := h
theorem forRng {lo hi : Int} {s0 : S} {f : Int → S → Res (Fl S β)} {k : S → Res β} (hP : Post ((forR (rngI lo hi) s0 f).bind (afterR k)) P R)
    (J : S → L2.St → Hp → Prop) (h0 : J s0 σ H)
    (hb : ∀ (N : L2.St → Hp → Prop) (T : Fl S β → Prop) (x : Int) s σ' H', J s σ' H' → lo ≤ x → x < hi → (∀ s' σ2 H2, J s' σ2 H2 → T (.nx s') → N σ2 H2) → (∀ r, T (.rt r) → P r) → (∀ s' σ2 H2, J s' σ2 H2 → T (.bk s') → D'.nx σ2 H2) → Post (f x s) T R →
      g (.int x) σ' H' fun σ2 H2 => tb { D' with nx := N, ct := N, bk := D'.nx } σ2 H2)
    (hd : ∀ s σ' H', J s σ' H' → Post (k s) P R → D'.nx σ' H') :
    ∃ W : Nat → Nat → L2.St → Hp → Prop, (∃ m, W 0 m σ H) ∧ ∀ i m σ H, W i m σ H →
      ((Itr lo (hi - lo).toNat).stop i H ∧ D'.nx σ H) ∨ ((Itr lo (hi - lo).toNat).go i H ∧ ∃ N : L2.St → Hp → Prop, (∀ σ' H', N σ' H' → ∃ m', m' < m ∧ W (i + 1) m' σ' H') ∧ ∀ x H', (Itr lo (hi - lo).toNat).yld i H x H' → g x σ H' fun σ2 H2 => tb { D' with nx := N, ct := N, bk := D'.nx } σ2 H2) := by
  refine for_range (lo := lo) (n := (hi - lo).toNat) (fun i σ' H' => ∃ s, J s σ' H' ∧ Post (forR ((rngI lo hi).drop i) s f) (fun a => Post (afterR k a) P R) R) ⟨s0, h0, hP.bind⟩ ?_ ?_
  · rintro i σ' H' hi' ⟨s, j, q⟩
    exact hb _ _ (lo + (i : Int)) s σ' H' j (by omega) (by omega) (fun s' σ2 H2 j2 t2 => ⟨s', j2, t2⟩) (fun r t2 => (t2 : Post (.ok r) P R).ok) (fun s' σ2 H2 j2 t2 => hd s' σ2 H2 j2 t2) (q.turn (rngI_get hi'))
  · rintro σ' H' ⟨s, j, q⟩
    exact hd s σ' H' j (q.forN (by rw [rngI_len]; exact Nat.le_refl _))
theorem h_forR1 {hi : Int} {s0 : S} {f : Int → S → Res (Fl S β)} {k : S → Res β} (hP : Post ((forR (rngI 0 hi) s0 f).bind (afterR k)) P R) (hz : -(2 ^ 62) ≤ hi ∧ hi < 2 ^ 62)
    (J : S → L2.St → Hp → Prop) (h0 : J s0 σ H)
    (hb : ∀ (N : L2.St → Hp → Prop) (T : Fl S β → Prop) (x : Int) s σ' H', J s σ' H' → 0 ≤ x → x < hi → (∀ s' σ2 H2, J s' σ2 H2 → T (.nx s') → N σ2 H2) → (∀ r, T (.rt r) → P r) → (∀ s' σ2 H2, J s' σ2 H2 → T (.bk s') → D'.nx σ2 H2) → Post (f x s) T R →
      g (.int x) σ' H' fun σ2 H2 => tb { D' with nx := N, ct := N, bk := D'.nx } σ2 H2)
    (hd : ∀ s σ' H', J s σ' H' → Post (k s) P R → D'.nx σ' H') : Rng1 [.int hi] g tb D' σ H := by
  have q := forRng hP J h0 hb hd
  rw [Int.sub_zero] at q
  exact ⟨hi, rfl, hz.1, hz.2, q⟩
theorem h_forR2 {lo hi : Int} {s0 : S} {f : Int → S → Res (Fl S β)} {k : S → Res β} (hP : Post ((forR (rngI lo hi) s0 f).bind (afterR k)) P R) (hz : (-(2 ^ 62) ≤ lo ∧ lo < 2 ^ 62) ∧ -(2 ^ 62) ≤ hi ∧ hi < 2 ^ 62)
    (J : S → L2.St → Hp → Prop) (h0 : J s0 σ H)
    (hb : ∀ (N : L2.St → Hp → Prop) (T : Fl S β → Prop) (x : Int) s σ' H', J s σ' H' → lo ≤ x → x < hi → (∀ s' σ2 H2, J s' σ2 H2 → T (.nx s') → N σ2 H2) → (∀ r, T (.rt r) → P r) → (∀ s' σ2 H2, J s' σ2 H2 → T (.bk s') → D'.nx σ2 H2) → Post (f x s) T R →
      g (.int x) σ' H' fun σ2 H2 => tb { D' with nx := N, ct := N, bk := D'.nx } σ2 H2)
    (hd : ∀ s σ' H', J s σ' H' → Post (k s) P R → D'.nx σ' H') : Rng2 [.int lo, .int hi] g tb D' σ H :=
  ⟨lo, hi, rfl, ⟨hz.1.1, hz.1.2, hz.2.1, hz.2.2⟩, forRng hP J h0 hb hd⟩

/-! comprehensions -/
def compL : List α → S → (α → S → Res (Option R' × S)) → Res (List R' × S)
  | [], s, _ => .ok ([], s)
  | x :: xs, s, f => (f x s).bind fun r => (compL xs r.2 f).bind fun q => .ok (match r.1 with | some b => b :: q.1 | none => q.1, q.2)
def compR (l : List α) (s : S) (f : α → S → Res (Option R' × S)) : Res (List R' × S) := guardR (l.length ≤ 1000000) (compL l s f)
def compT (l : List α) (f : α → S → Res (Option R' × S)) (k : List R' × S → Res β) (acc : List R') (P : β → Prop) (R : Err → Prop) : Option R' × S → Prop
  | (some b, s) => Post ((compL l s f).bind fun q => k (acc ++ [b] ++ q.1, q.2)) P R
  | (none, s) => Post ((compL l s f).bind fun q => k (acc ++ q.1, q.2)) P R
theorem Post.compS {l : List α} {i : Nat} {s : S} {f : α → S → Res (Option R' × S)} {k : List R' × S → Res β} {acc : List R'} {x : α} (h : Post ((compL (l.drop i) s f).bind fun q => k (acc ++ q.1, q.2)) P R) (hx : l[i]? = some x) :
    Post (f x s) (compT (l.drop (i + 1)) f k acc P R) R := by
  obtain ⟨hi, e⟩ := List.getElem?_eq_some_iff.mp hx
  rw [List.drop_eq_getElem_cons hi, e] at h
  have h2 := (Post.bind (Post.bind h))
  refine h2.mono (fun r q => ?_) fun _ q => q
  obtain ⟨o, s'⟩ := r
  cases o with
  | some b =>
    show Post ((compL (l.drop (i + 1)) s' f).bind fun q => k (acc ++ [b] ++ q.1, q.2)) P R
    have q1 : Post ((compL (l.drop (i + 1)) s' f).bind fun q => .ok (b :: q.1, q.2)) (fun a => Post (k (acc ++ a.1, a.2)) P R) R := q
    generalize compL (l.drop (i + 1)) s' f = m at q1 ⊢
    cases m with
    | ok a =>
      have q2 : Post (k (acc ++ (b :: a.1), a.2)) P R := q1.ok
      show Post (k (acc ++ [b] ++ a.1, a.2)) P R
      rw [List.append_assoc]
      exact q2
    | err e => exact ⟨q1.h0⟩
    | stuck => exact ⟨q1.h0⟩
  | none =>
    show Post ((compL (l.drop (i + 1)) s' f).bind fun q => k (acc ++ q.1, q.2)) P R
    have q1 : Post ((compL (l.drop (i + 1)) s' f).bind fun q => .ok (q.1, q.2)) (fun a => Post (k (acc ++ a.1, a.2)) P R) R := q
    generalize compL (l.drop (i + 1)) s' f = m at q1 ⊢
    cases m
    · exact q1.ok
    · exact ⟨q1.h0⟩
    · exact ⟨q1.h0⟩
theorem h_app1 [Enc α] {l : List α} {b : α} {y : V} {N : Hp → Prop} (w : Ex B H) (m : Mu K B H p (l.map enc)) (r : Rep K B y (enc b)) (hz : l.length < sizeLine) (h : ∀ H', Stp [p] B H B H' → Mu K B H' p ((l ++ [b]).map enc) → N H') :
    ∃ acc, H p = some (.lst acc) ∧ acc.length < sizeLine ∧ N (upd H p (.lst (acc ++ [y]))) := by
  obtain ⟨hb, xs, hp, hr⟩ := id m
  refine ⟨xs, hp, by rw [hr.length, List.length_map]; exact hz, ?_⟩
  have rl : RepL K B (xs ++ [y]) ((l ++ [b]).map enc) := by
    rw [List.map_append]
    exact hr.append (.cons r .nil)
  obtain ⟨s, m'⟩ := Stp.mut w m rl
  exact h _ s m'
def LcL (K : PySem.W.Frag) (v : V) (g : TG) (tt : TT) (te : TE) (vs : List Nat) (σ : L2.St) (H : Hp) (Q : VK) : Prop := tLc (iList K (tC v)) g tt te vs σ H Q
theorem h_lcE {vs : List Nat} {tl : TE} (h : tl σ H fun x H1 => LcL K x g tt te vs σ H1 Q) : tLc (iList K tl) g tt te vs σ H Q := h
def LcT (σ : L2.St) (vs : List Nat) (tt : TT) (te : TE) (Dl : Addr) (N : Hp → Prop) : L2.St → Hp → Prop := fun σ2 H2 => wipe σ2 vs = wipe σ vs ∧ tt σ2 H2 fun b H3 =>
  if b = true then te σ2 H3 fun y H4 => ∃ acc, H4 Dl = some (.lst acc) ∧ acc.length < sizeLine ∧ N (upd H4 Dl (.lst (acc ++ [y]))) else N H3
def App (Dl : Addr) (N : Hp → Prop) : VK := fun y H4 => ∃ acc, H4 Dl = some (.lst acc) ∧ acc.length < sizeLine ∧ N (upd H4 Dl (.lst (acc ++ [y])))
theorem h_lcT {vs : List Nat} {Dl : Addr} {N : Hp → Prop} {σ2 : L2.St} (e : wipe σ2 vs = wipe σ vs) (h : te σ2 H (App Dl N)) : LcT σ vs tYes te Dl N σ2 H := ⟨e, h⟩
theorem h_lcI {vs : List Nat} {Dl : Addr} {N : Hp → Prop} {σ2 : L2.St} (e : wipe σ2 vs = wipe σ vs) (h : tt σ2 H fun b H3 => if b = true then te σ2 H3 (App Dl N) else N H3) : LcT σ vs tt te Dl N σ2 H := ⟨e, h⟩
theorem h_app [Enc α] {l : List α} {b : α} {y : V} {N : Hp → Prop} (w : Ex B H) (m : Mu K B H p (l.map enc)) (r : Rep K B y (enc b)) (hz : l.length < sizeLine) (h : ∀ H', Stp [p] B H B H' → Mu K B H' p ((l ++ [b]).map enc) → N H') : App p N y H := h_app1 w m r hz h
theorem h_lcL [Enc α] {l : List α} {s0 : S} {f : α → S → Res (Option R' × S)} {k : List R' × S → Res β} {vs : List Nat} (hP : Post ((compR l s0 f).bind k) P R) (hs : SqL K H p xs) (hr : RepL K B xs (l.map enc))
    (J : Addr → List R' → S → Hp → Prop) (h0 : ∀ Dl, H Dl = none → J Dl [] s0 (upd H Dl (.lst []))) (hl : ∀ Dl acc s H', J Dl acc s H' → SqL K H' p xs)
    (hb : ∀ (Dl : Addr) (N : Hp → Prop) (T : Option R' × S → Prop) (x : α) v acc s H', J Dl acc s H' → Rep K B v (enc x) → acc.length < sizeLine → (∀ b s' H2, J Dl (acc ++ [b]) s' H2 → T (some b, s') → N H2) → (∀ s' H2, J Dl acc s' H2 → T (none, s') → N H2) → Post (f x s) T R →
      g v (wipe σ vs) H' (LcT σ vs tt te Dl N))
    (hd : ∀ Dl acc s H', J Dl acc s H' → Post (k (acc, s)) P R → Q (.ref Dl) H') : LcL K (.ref p) g tt te vs σ H Q := by
  refine ⟨p, rfl, ⟨xs, hs⟩, fun Dl hD => ?_⟩
  unfold compR at hP
  have hz : l.length ≤ 1000000 := by
    by_cases c : l.length ≤ 1000000
    · exact c
    · unfold guardR at hP; rw [if_neg c] at hP; exact hP.elim
  unfold guardR at hP
  rw [if_pos hz] at hP
  refine lc_list (K := K) (a := p) (xs := xs) (fun i H' => ∃ acc s, J Dl acc s H' ∧ acc.length ≤ i ∧ Post ((compL (l.drop i) s f).bind fun q => k (acc ++ q.1, q.2)) P R) ⟨[], s0, h0 Dl hD, Nat.le_refl _, hP⟩ (fun i H' _ ⟨acc, s, j, _⟩ => hl Dl acc s H' j) ?_ ?_
  · rintro i y H' hi ⟨acc, s, j, hn, q⟩
    have h1 := (List.getElem?_eq_some_iff.mp hi).1
    rw [hr.length, List.length_map] at h1
    obtain ⟨x, hx⟩ : ∃ x, l[i]? = some x := ⟨l[i], List.getElem?_eq_getElem h1⟩
    obtain ⟨u, hu, ru⟩ := hr.get (i := i) (d := enc x) (by rw [List.getElem?_map, hx]; rfl)
    rw [hi] at hu; cases hu
    exact hb Dl _ _ x y acc s H' j ru (Nat.lt_of_le_of_lt (Nat.le_trans hn (Nat.le_trans (Nat.le_of_lt h1) hz)) (by decide)) (fun b s' H2 j2 t2 => ⟨acc ++ [b], s', j2, by rw [List.length_append]; exact Nat.succ_le_succ hn, t2⟩) (fun s' H2 j2 t2 => ⟨acc, s', j2, Nat.le_succ_of_le hn, t2⟩) (q.compS hx)
  · rintro H' ⟨acc, s, j, _, q⟩
    rw [hr.length, List.length_map, List.drop_eq_nil_of_le (Nat.le_refl _)] at q
    have q2 : Post (k (acc ++ [], s)) P R := q
    rw [List.append_nil] at q2
    exact hd Dl acc s H' j q2
def LcR1 (ws : List V) (g : TG) (tt : TT) (te : TE) (vs : List Nat) (σ : L2.St) (H : Hp) (Q : VK) : Prop := tLc (iRng1 (fun _ H Q => Q ws H)) g tt te vs σ H Q
theorem h_lcR1E {vs : List Nat} {ta : TA} (h : ta σ H fun ws H1 => LcR1 ws g tt te vs σ H1 Q) : tLc (iRng1 ta) g tt te vs σ H Q := h
theorem h_lcR1 {hi : Int} {s0 : S} {f : Int → S → Res (Option R' × S)} {k : List R' × S → Res β} {vs : List Nat} (hP : Post ((compR (rngI 0 hi) s0 f).bind k) P R)
    (J : Addr → List R' → S → Hp → Prop) (h0 : ∀ Dl, H Dl = none → J Dl [] s0 (upd H Dl (.lst [])))
    (hb : ∀ (Dl : Addr) (N : Hp → Prop) (T : Option R' × S → Prop) (x : Int) acc s H', J Dl acc s H' → 0 ≤ x → x < hi → acc.length < sizeLine → (∀ b s' H2, J Dl (acc ++ [b]) s' H2 → T (some b, s') → N H2) → (∀ s' H2, J Dl acc s' H2 → T (none, s') → N H2) → Post (f x s) T R →
      g (.int x) (wipe σ vs) H' (LcT σ vs tt te Dl N))
    (hd : ∀ Dl acc s H', J Dl acc s H' → Post (k (acc, s)) P R → Q (.ref Dl) H') (hlo : -(2 ^ 62) ≤ hi) : LcR1 [.int hi] g tt te vs σ H Q := by
  unfold compR at hP
  have hz : (rngI 0 hi).length ≤ 1000000 := by
    by_cases c : (rngI 0 hi).length ≤ 1000000
    · exact c
    · unfold guardR at hP; rw [if_neg c] at hP; exact hP.elim
  unfold guardR at hP
  rw [if_pos hz] at hP
  rw [rngI_len, Int.sub_zero] at hz
  refine ⟨hi, rfl, hlo, by omega, fun Dl hD => ?_⟩
  refine lc_range (lo := 0) (n := hi.toNat) (fun i H' => ∃ acc s, J Dl acc s H' ∧ acc.length ≤ i ∧ Post ((compL ((rngI 0 hi).drop i) s f).bind fun q => k (acc ++ q.1, q.2)) P R) ⟨[], s0, h0 Dl hD, Nat.le_refl _, hP⟩ ?_ ?_
  · rintro i H' hi' ⟨acc, s, j, hn, q⟩
    have hx := rngI_get (lo := 0) (hi := hi) (i := i) (by omega)
    have e : (0 : Int) + (i : Int) = (i : Int) := Int.zero_add _
    exact hb Dl _ _ (0 + (i : Int)) acc s H' j (by omega) (by omega) (Nat.lt_of_le_of_lt (Nat.le_trans hn (Nat.le_trans (Nat.le_of_lt hi') hz)) (by decide)) (fun b s' H2 j2 t2 => ⟨acc ++ [b], s', j2, by rw [List.length_append]; exact Nat.succ_le_succ hn, t2⟩) (fun s' H2 j2 t2 => ⟨acc, s', j2, Nat.le_succ_of_le hn, t2⟩) (q.compS hx)
  · rintro H' ⟨acc, s, j, _, q⟩
    rw [List.drop_eq_nil_of_le (by rw [rngI_len]; omega)] at q
    have q2 : Post (k (acc ++ [], s)) P R := q
    rw [List.append_nil] at q2
    exact hd Dl acc s H' j q2
end

section
variable {K : PySem.W.Frag} {B B' H H' B0 H0 : Hp} {W : List Addr} {p : Addr} {xs : List V} {ds : List D} {v : V} {a b c d : L2.St → Hp → Prop} {rt : VK} {σ : L2.St}
theorem Rep.sqB (r : Rep K B v (.lst ds)) : ∃ p xs, v = .ref p ∧ SqL K B p xs ∧ RepL K B xs ds := by
  cases r with
  | @lst p xs _ hp r => exact ⟨p, xs, rfl, hp, r⟩
theorem Rep.stB (r : Rep K B v (.tup ds)) : ∃ p xs, v = .ref p ∧ SqT K B p xs ∧ RepL K B xs ds := by
  cases r with
  | @tup p xs _ hp r => exact ⟨p, xs, rfl, hp, r⟩
theorem Bor.sq0 (m : Bor K B0 H0 W v ds) : ∃ p xs, v = .ref p ∧ RepL K B0 xs ds ∧ ∀ B' H', Stp W B0 H0 B' H' → SqL K H' p xs := by
  obtain ⟨p, xs, e, hp, r⟩ := m
  refine ⟨p, xs, e, r, fun B' H' s => ?_⟩
  rcases hp with ⟨hp | ⟨o, hp⟩, hw⟩ | hp
  · exact .inl (.inl (s.fr p _ hw hp))
  · exact .inl (.inr ⟨o, s.fr p _ hw hp⟩)
  · exact .inr hp
theorem h_ct (h : d σ H) : tCont (Ends.mk a rt b d) σ H := h
theorem h_bk (h : b σ H) : tBreak (Ends.mk a rt b d) σ H := h
end

/-! ### lists that change -/
def setR {α : Type} (l : List α) (i : Int) (x : α) : Res (List α) := match ixN l.length i with | some j => .ok (l.set j x) | none => .stuck
def Bm (K : PySem.W.Frag) (T : String) (r : V → List V → Hp → VK → Prop) (t : TA) (σ : L2.St) (x : V) (H : Hp) (Q : VK) : Prop := tyV K T x H ∧ t σ H fun xs H2 => r x xs H2 Q
def Bm0 (K : PySem.W.Frag) (T : String) (r : V → List V → Hp → VK → Prop) (σ : L2.St) (x : V) (H : Hp) (Q : VK) : Prop := tyV K T x H ∧ r x [] H Q
section
variable {K : PySem.W.Frag} {σ : L2.St} {B H : Hp} {Q : VK} {p q : Addr} {v y : V} {te to ti : TE} {t : TA} {D' : Ends} {z : TS} {i : Int} {r : V → List V → Hp → VK → Prop}
theorem h_bm {T : String} (h : to σ H fun x H1 => Bm K T r t σ x H1 Q) : tBM K T r to t σ H Q := h
theorem h_bm0 {T : String} (h : to σ H fun x H1 => Bm0 K T r σ x H1 Q) : tBM0 K T r to σ H Q := h
theorem Mu.tyV {ds : List D} (m : Mu K B H p ds) : tyV K "list" (.ref p) H := by
  obtain ⟨hb, xs, hp, _⟩ := m
  exact .inl ⟨rfl, _, .inl (.inl hp)⟩
theorem h_bmL {ds : List D} (m : Mu K B H p ds) (h : t σ H fun xs H2 => r (.ref p) xs H2 Q) : Bm K "list" r t σ (.ref p) H Q := ⟨m.tyV, h⟩
theorem h_bmL0 {ds : List D} (m : Mu K B H p ds) (h : r (.ref p) [] H Q) : Bm0 K "list" r σ (.ref p) H Q := ⟨m.tyV, h⟩
theorem h_append {α : Type} [Enc α] {l : List α} {b : α} (w : Ex B H) (m : Mu K B H p (l.map enc)) (ry : Rep K B y (enc b)) (hz : l.length < 1000000) (h : ∀ H', Stp [p] B H B H' → Mu K B H' p ((l ++ [b]).map enc) → Q .non H') : rAppend (.ref p) [y] H Q := by
  obtain ⟨hb, xs, hp, hr⟩ := id m
  refine ⟨p, xs, y, rfl, rfl, hp, by rw [hr.length, List.length_map]; exact Nat.lt_of_lt_of_le hz (by decide), ?_⟩
  have rl : RepL K B (xs ++ [y]) ((l ++ [b]).map enc) := by
    rw [List.map_append]
    exact hr.append (.cons ry .nil)
  obtain ⟨s, m'⟩ := Stp.mut w m rl
  exact h _ s m'
theorem h_extend {α : Type} [Enc α] {l l2 : List α} (w : Ex B H) (m : Mu K B H p (l.map enc)) (m2 : Mu K B H q (l2.map enc)) (hz : l.length + l2.length ≤ 1000000) (h : ∀ H', Stp [p] B H B H' → Mu K B H' p ((l ++ l2).map enc) → Q .non H') : rExtend (.ref p) [.ref q] H Q := by
  obtain ⟨hb, xs, hp, hr⟩ := id m
  obtain ⟨hb2, ys, hp2, hr2⟩ := id m2
  refine ⟨p, q, xs, ys, rfl, rfl, hp, hp2, by rw [hr.length, hr2.length, List.length_map, List.length_map]; exact Nat.le_trans hz (by decide), ?_⟩
  have rl : RepL K B (xs ++ ys) ((l ++ l2).map enc) := by
    rw [List.map_append]
    exact hr.append hr2
  obtain ⟨s, m'⟩ := Stp.mut w m rl
  exact h _ s m'
theorem RepL.set : ∀ {vs : List V} {ds : List D} {j : Nat} {d : D}, RepL K B vs ds → Rep K B v d → RepL K B (vs.set j v) (ds.set j d)
  | _, _, _, _, .nil, _ => .nil
  | _, _, 0, _, .cons _ t, r => .cons r t
  | _, _, j + 1, _, .cons h t, r => .cons h (RepL.set t r)
theorem Post.set {α β : Type} {l : List α} {x : α} {k : List α → Res β} {P : β → Prop} {R : Err → Prop} (h : Post ((setR l i x).bind k) P R) : ∃ j, ixN l.length i = some j ∧ Post (k (l.set j x)) P R := by
  unfold setR at h
  cases e : ixN l.length i with
  | none => rw [e] at h; exact h.elim
  | some j => rw [e] at h; exact ⟨j, rfl, h⟩
def SubS (K : PySem.W.Frag) (to ti : TE) (σ : L2.St) (v : V) (H : Hp) (N : L2.St → Hp → Prop) : Prop := gSub to ti rSetL v σ H N
theorem h_sub {N : L2.St → Hp → Prop} (h : to σ H fun o H1 => ti σ H1 fun i H2 => rSetL o i v H2 fun H3 => N σ H3) : gSub to ti rSetL v σ H N := h
theorem h_asg {g : TG} (h : te σ H fun x H1 => g x σ H1 D'.nx) : tAsg te g D' σ H := h
theorem h_setL {α : Type} [Enc α] {l : List α} {b : α} {N : Hp → Prop} {j : Nat} (w : Ex B H) (m : Mu K B H p (l.map enc)) (ry : Rep K B v (enc b)) (hj : ixN l.length i = some j) (h : ∀ H', Stp [p] B H B H' → Mu K B H' p ((l.set j b).map enc) → N H') : rSetL (.ref p) (.int i) v H N := by
  obtain ⟨hb, xs, hp, hr⟩ := id m
  refine ⟨p, xs, i, j, rfl, rfl, hp, by rw [hr.length, List.length_map]; exact hj, ?_⟩
  have rl : RepL K B (xs.set j v) ((l.set j b).map enc) := by
    rw [List.map_set]
    exact hr.set ry
  obtain ⟨s, m'⟩ := Stp.mut w m rl
  exact h _ s m'
end

/-- a value with a name -/
def lt {α β : Type} (d : α) (k : α → Res β) : Res β := k d
theorem Post.lt {α β : Type} {d : α} {k : α → Res β} {P : β → Prop} {R : Err → Prop} (h : Post (Y.lt d k) P R) : Post (k d) P R := h

/-! ### lists put together, cut, compared; keywords alone -/
def rCatQ (K : PySem.W.Frag) : R2 := fun x y H Q => ∃ a b xs ys, x = .ref a ∧ y = .ref b ∧ SqL K H a xs ∧ SqL K H b ys ∧ xs.length + ys.length ≤ sizeLine ∧ NwL (xs ++ ys) H Q
theorem op_catQ {X : Cx} : OpR X (binaryOp .Add) (rCatQ X.K) := by
  intro pins s σ H x y v u Q I rx ry h
  obtain ⟨a, b, xs, ys, rfl, rfl, ha, hb, hz, q⟩ := h
  cases rx
  cases ry
  obtain ⟨its, r, p1, z1⟩ := I.list ha
  obtain ⟨its2, r2, p2, z2⟩ := I.list hb
  have hl1 := r.length
  have hl2 := r2.length
  obtain ⟨⟨cls, dd, data, sl⟩, ho, hc, n, hd⟩ := p1.isList
  obtain ⟨⟨cls2, dd2, data2, sl2⟩, ho2, hc2, n2, hd2⟩ := p2.isList
  simp only at hc hd hc2 hd2
  subst hc hd hc2 hd2
  have e : its.toArray ++ its2.toArray = (its ++ its2).toArray := by simp
  refine concat_meets ⟨_, ho, rfl⟩ ⟨_, ho2, rfl⟩ noFill_list_add seq_list_add PySem.F.slot_list_add PySem.F.entry_list_add (PySem.F.args_list_add_2 _ _) (list_addW a b its.toArray its2.toArray n n2 dd dd2 sl sl2 (by rw [List.size_toArray, List.size_toArray]; omega)) ⟨ho, ho2, ?_⟩
  rw [e]
  exact ⟨.ref _, _, I.lnew (t' := s.toks) (r.append r2) (by rw [List.length_append]; omega), rfl, q _ I.fresh⟩
def rSlQ (K : PySem.W.Frag) : V → Option Int → Option Int → Hp → VK → Prop := fun x lo hi H Q => ∃ a xs, x = .ref a ∧ SqL K H a xs ∧ NwL (cutV xs lo hi) H Q
theorem sl_Q {X : Cx} : SlR X (rSlQ X.K) := sl_list
/-- l[lo:hi] -/
def cutL {α : Type} (l : List α) (lo hi : Option Int) : List α := (l.drop (HT.sIx l.length 0 lo)).take (HT.sIx l.length l.length hi - HT.sIx l.length 0 lo)
mutual
/-- as the library's data -/
def pyD : D → PyData
  | .non => .none | .bl b => .bool b | .int i => .int i | .str x => .str x | .lst ds => .list (pyDs ds) | .tup ds => .tuple (pyDs ds) | .dic _ => .dict [] | .obj _ _ => .dict []
def pyDs : List D → List PyData
  | [] => []
  | d :: ds => pyD d :: pyDs ds
end
mutual
/-- no dict within -/
def flatD : D → Bool
  | .lst ds => flatDs ds | .tup ds => flatDs ds | .dic _ => false | .obj _ _ => false | _ => true
def flatDs : List D → Bool
  | [] => true
  | d :: ds => flatD d && flatDs ds
end
/-- == of data -/
def eqD (a b : D) : Bool := PyData.eqv (pyD a) (pyD b)
section
variable {K : PySem.W.Frag} {B B' H H' : Hp}
mutual
theorem Rep.dp (w : Ex B H) : ∀ {v : V} {d : D}, Rep K B v d → flatD d = true → Dp K H v (pyD d)
  | _, _, .non, _ => .non
  | _, _, .bl b, _ => .bl b
  | _, _, .int i, _ => .int i
  | _, _, .str x, _ => .str x
  | _, _, .lst h r, f => .lst (w.l h) (RepL.dp w r f)
  | _, _, .tup h r, f => .tup (w.t h) (RepL.dp w r f)
  | _, _, .dic h r, f => nomatch f
  | _, _, .obj h k r, f => nomatch f
theorem RepL.dp (w : Ex B H) : ∀ {vs : List V} {ds : List D}, RepL K B vs ds → flatDs ds = true → DpAll K H vs (pyDs ds)
  | _, _, .nil, _ => .nil
  | _, _, .cons h t, f => by
    have f' : (flatD _ && flatDs _) = true := f
    rw [Bool.and_eq_true] at f'
    exact .cons (Rep.dp w h f'.1) (RepL.dp w t f'.2)
end
variable {σ : L2.St} {Q : VK} {x y v : V} {d e : D} {p q : Addr} {xs ys : List V} {i j k : Int} {tc te ta tb : TE} {lo hi : Option Int} {to tu : TO}
/-- what may be compared by == here -/
def okEq (d e : D) : Prop := flatD d = true ∧ flatD e = true ∧ SeqAt.shaped (pyD d) = true ∧ SeqAt.shaped (pyD e) = true
instance (d e : D) : Decidable (okEq d e) := by unfold okEq; infer_instance
theorem h_eqD (w : Ex B H) (rx : Rep K B x d) (ry : Rep K B y e) (o : okEq d e) (h : Q (.bl (eqD d e)) H) : rEqD K x y H Q := ⟨_, _, rx.dp w o.1, ry.dp w o.2.1, o.2.2.1, o.2.2.2, h⟩
theorem h_neD (w : Ex B H) (rx : Rep K B x d) (ry : Rep K B y e) (o : okEq d e) (h : Q (.bl (!eqD d e)) H) : rNeD K x y H Q := ⟨_, _, rx.dp w o.1, ry.dp w o.2.1, o.2.2.1, o.2.2.2, h⟩
theorem h_cat (s1 : SqL K H p xs) (s2 : SqL K H q ys) (hz : xs.length + ys.length ≤ sizeLine) (h : NwL (xs ++ ys) H Q) : rCatQ K (.ref p) (.ref q) H Q := ⟨p, q, xs, ys, rfl, rfl, s1, s2, hz, h⟩
theorem RepL.cat {α : Type} [Enc α] {l l2 : List α} (r : RepL K B xs (l.map enc)) (r2 : RepL K B ys (l2.map enc)) : RepL K B (xs ++ ys) ((l ++ l2).map enc) := by
  rw [List.map_append]; exact r.append r2
theorem RepL.take : ∀ {vs : List V} {ds : List D} (n : Nat), RepL K B vs ds → RepL K B (vs.take n) (ds.take n)
  | _, _, 0, _ => .nil
  | _, _, _ + 1, .nil => .nil
  | _, _, n + 1, .cons r t => .cons r (RepL.take n t)
theorem RepL.drop : ∀ {vs : List V} {ds : List D} (n : Nat), RepL K B vs ds → RepL K B (vs.drop n) (ds.drop n)
  | _, _, 0, r => r
  | _, _, _ + 1, .nil => .nil
  | _, _, n + 1, .cons _ t => RepL.drop n t
theorem RepL.cut {α : Type} [Enc α] {l : List α} (r : RepL K B xs (l.map enc)) (lo hi : Option Int) : RepL K B (cutV xs lo hi) ((cutL l lo hi).map enc) := by
  unfold cutV cutL
  rw [List.map_take, List.map_drop, r.length, List.length_map]
  exact (r.drop _).take _
theorem h_sl {r : V → Option Int → Option Int → Hp → VK → Prop} (h : te σ H fun x H1 => to σ H1 fun l H2 => tu σ H2 fun u H3 => r x l u H3 Q) : tSl r te to tu σ H Q := h
theorem h_part {N : Option Int → Hp → Prop} (h : te σ H fun x H1 => ∃ i, x = .int i ∧ N (some i) H1) : tPart te σ H N := h
theorem h_isI {f : Int → Prop} (h : f i) : ∃ j, V.int i = .int j ∧ f j := ⟨i, rfl, h⟩
theorem h_nopart {N : Option Int → Hp → Prop} (h : N none H) : tNoPart σ H N := h
theorem h_slQ (s : SqL K H p xs) (h : NwL (cutV xs lo hi) H Q) : rSlQ K (.ref p) lo hi H Q := ⟨p, xs, rfl, s, h⟩
theorem h_ch {g g' : Int → Int → Bool} (hc : ∀ Q : VK, Q (.int k) H → tc σ H Q) (h : Q (.bl (g i j && g' j k)) H) :
    rI0 (fun i j => .bl (g i j)) (.int i) (.int j) H (fun z H3 => ∃ c, z = .bl c ∧ (if c = true then tc σ H3 fun w' H4 => rI0 (fun i j => .bl (g' i j)) (.int j) w' H4 Q else Q (.bl false) H3)) := by
  refine ⟨i, j, rfl, rfl, g i j, rfl, ?_⟩
  cases e : g i j with
  | true =>
    refine h_iteT (hc _ ?_)
    rw [e, Bool.true_and] at h
    exact ⟨j, k, rfl, rfl, h⟩
  | false =>
    rw [e, Bool.false_and] at h
    exact h_iteF h
end
/-- f(k = v, ..) -/
def tCallK0 (sp : Sp) (gV : List V → List V) (E : XK) (tk : TA) : TE := fun σ H Q => tk σ H fun zs H2 => sp (gV zs) H2 Q E
theorem pe_callK0 {X : Cx} {CX : CXT} {k : Nat} {f : Addr} {fd : FuncData} {ps ks : List Str} {sp : Sp} {E : XK} {x : Str} {p pos : Pos} {kws : List Keyword} {tk : TA} {g : List Value → List Value → List Value} {gV : List V → List V → List V}
    (F : FnOk X.prog X.w X.K X.mg X.base CX k f fd ps sp) (hr : Room k X.A) (hg : Gl X x) (hm : X.mg x = some (.ref f)) (hk : PySem.W.keepIn X.K (.ref f) = true) (hb : KBinds X.K fd ps ks g gV) (hx : Passes CX X E)
    (hkw : PK X kws tk) (hall : (backToKw pos (keywordEach kws X.env)).all (·.1.isSome) = true := by rfl) (hks : (backToKw pos (keywordEach kws X.env)).filterMap (·.1) = ks := by rfl)
    (hdb : (x == ("__debug__" : Str)) = false := by decide)
    (hpl : ((backTo pos (starEach [] X.env)).any (·.1) || (backToKw pos (keywordEach kws X.env)).any (·.1.isNone)) = false := by rfl) :
    PE X (.Call (.Name x p) [] kws pos) (tCallK0 sp (gV []) E tk) := by
  refine ⟨fun pins s σ H Q I h => ?_⟩
  refine wpAny_Call_Name_kw (ld_glob I hg hm ?_ hdb)
  refine PySem.W.callWith_KW0 (h₀ := X.base) I.ok.mod.kin hk hall ?_ hpl
  refine thn (hkw.run pos pins s σ H _ I h) fun ws s2 ⟨zs, H2, I2, rz, q2⟩ => ⟨I2.kIn, ?_⟩
  rw [hks]
  exact run_fnk F hr hb hx I2 .nil rz q2
theorem h_callK0 {σ : L2.St} {H : Hp} {Q : VK} {sp : Sp} {gV : List V → List V} {E : XK} {tk : TA} (h : tk σ H fun zs H2 => sp (gV zs) H2 Q E) : tCallK0 sp gV E tk σ H Q := h
theorem h_callK {σ : L2.St} {H : Hp} {Q : VK} {sp : Sp} {gV : List V → List V → List V} {E : XK} {t tk : TA} (h : t σ H fun vs H1 => tk σ H1 fun zs H2 => sp (gV vs zs) H2 Q E) : tCallK sp gV E t tk σ H Q := h
theorem hu64_of {A : Around} {k : Nat} (hr : Room k A) : A.units + 64 < cLine := Nat.lt_of_le_of_lt (Nat.add_le_add_left (by decide : 64 ≤ 64) _) hr.units

/-! ### dicts as data -/
section
variable {K : PySem.W.Frag} {B H : Hp} {σ : L2.St} {Q : VK} {tk tv : TE} {v : V} {d : D} {i : Int} {p : Addr} {xs : List V}
theorem h_disp1I (hk : ∀ (H' : Hp) (Q : VK), Q (.int i) H' → tk σ H' Q) (hv : ∀ (H' : Hp) (Q : VK), Q v H' → tv σ H' Q) (w : Ex B H) (rv : Rep K B v d)
    (h : ∀ p B' H', Stp [] B H B' H' → Rep K B' (.ref p) (.dic [(.inl i, d)]) → Q (.ref p) H') : tDisp [(tk, tv)] σ H Q := fun p hp => by
  show tk σ (upd H p (.dK [])) _
  refine hk _ _ (hv _ _ ⟨upd_same, [(.inl i, v)], rfl, (by show 1 ≤ 15; decide), ?_⟩)
  rw [upd_upd]
  have hb := w.none hp
  exact h p _ _ (Stp.new w hp) (.dic upd_same (.cons (rv.mono (Ex.new hb)) .nil))
theorem h_dnew (w : Ex B H) (h : ∀ p B' H', Stp [] B H B' H' → Rep K B' (.ref p) (.dic []) → Q (.ref p) H') : tDNewK σ H Q := fun p hp => h p _ _ (Stp.new w hp) (.dic upd_same .nil)
def rDictP (K : PySem.W.Frag) : List V → Hp → VK → Prop := fun xs H Q => ∃ (a : Addr) (ps : List Addr) (kvs : List (Key × V)), xs = [.ref a] ∧ SqL K H a (ps.map V.ref) ∧ Paired (fun p kv => SqT K H p [kV kv.1, kv.2]) ps kvs ∧
    ∀ p, H p = none → Q (.ref p) (upd H p (.dK (mergeK [] kvs)))
theorem cr_dict {X : Cx} (hc : X.calm = true) : CallR X (.type "dict") (rDictP X.K) := call_dictP hc
def vD : V → D
  | .int i => .int i | .bl b => .bl b | .str x => .str x | _ => .non
/-- dict(pairs of ints), as data -/
def dictI (l : List (Tp2 Int Int)) : List (Key × D) := (mergeK [] (l.map fun t => ((Sum.inl t.a : Key), V.int t.b))).map fun kv => (kv.1, vD kv.2)
theorem putK_ints {kvs : List (Key × V)} {k : Key} {j : Int} (h : ∀ kv ∈ kvs, ∃ i, kv.2 = V.int i) : ∀ kv ∈ putK kvs k (V.int j), ∃ i, kv.2 = V.int i := by
  intro kv m
  unfold putK at m
  split at m
  · obtain ⟨q, hq, e⟩ := List.mem_map.mp m
    rw [← e]
    split
    · exact ⟨j, rfl⟩
    · exact h q hq
  · rcases List.mem_append.mp m with m | m
    · exact h kv m
    · rw [List.mem_singleton.mp m]; exact ⟨j, rfl⟩
theorem merge_ints : ∀ {l : List (Tp2 Int Int)} {acc : List (Key × V)}, (∀ kv ∈ acc, ∃ i, kv.2 = V.int i) → ∀ kv ∈ mergeK acc (l.map fun t => ((Sum.inl t.a : Key), V.int t.b)), ∃ i, kv.2 = V.int i
  | [], _, h => h
  | t :: r, acc, h => merge_ints (l := r) (putK_ints h)
theorem RepK.ints : ∀ {kvs : List (Key × V)}, (∀ kv ∈ kvs, ∃ i, kv.2 = V.int i) → RepK K B kvs (kvs.map fun kv => (kv.1, vD kv.2))
  | [], _ => .nil
  | (k, v) :: r, h => by
    obtain ⟨i, e⟩ := h (k, v) List.mem_cons_self
    have e' : v = V.int i := e
    subst e'
    exact .cons (.int i) (RepK.ints fun kv m => h kv (List.mem_cons_of_mem _ m))
theorem pairs_D (w : Ex B H) : ∀ {xs : List V} {l : List (Tp2 Int Int)}, RepL K B xs (l.map enc) → ∃ ps : List Addr, xs = ps.map V.ref ∧ Paired (fun p (kv : Key × V) => SqT K H p [kV kv.1, kv.2]) ps (l.map fun t => ((Sum.inl t.a : Key), V.int t.b))
  | [], [], _ => ⟨[], rfl, .nil⟩
  | _ :: _, [], r => nomatch r
  | [], _ :: _, r => nomatch r
  | v :: vs, t :: l, r => by
    cases r with
    | cons h q =>
      obtain ⟨ps, e, pr⟩ := pairs_D w q
      obtain ⟨p, ys, rfl, hs, hr⟩ := Rep.st w (show Rep K B v (.tup [enc t.a, enc t.b]) from h)
      cases hr with
      | cons h1 t1 =>
        cases t1 with
        | cons h2 t2 =>
          cases t2
          cases h1
          cases h2
          exact ⟨p :: ps, by rw [e]; rfl, .cons hs pr⟩
theorem h_dictP {l : List (Tp2 Int Int)} (w : Ex B H) (s : SqL K H p xs) (r : RepL K B xs (l.map enc)) (h : ∀ p B' H', Stp [] B H B' H' → Rep K B' (.ref p) (.dic (dictI l)) → Q (.ref p) H') : rDictP K [.ref p] H Q := by
  obtain ⟨ps, e, pr⟩ := pairs_D w r
  subst e
  exact ⟨p, ps, _, rfl, s, pr, fun q hq => h q _ _ (Stp.new w hq) (.dic upd_same (RepK.ints (merge_ints fun _ m => nomatch m)))⟩
end
theorem RepL.toD {K : PySem.W.Frag} {B : Hp} {α : Type} [Enc α] {xs : List V} {l : List α} (r : RepL K B xs (l.map enc)) : RepL K B xs ((l.map enc : List D).map enc) := by
  have e : (l.map enc : List D).map enc = l.map enc := List.map_id' _
  rw [e]; exact r
/-- a thing that is an int -/
def asI (d : D) : Res Int := match d with | .int i => .ok i | _ => .stuck
theorem Post.asI {β : Type} {d : D} {k : Int → Res β} {P : β → Prop} {R : Err → Prop} (h : Post ((Y.asI d).bind k) P R) : ∃ i, d = .int i ∧ Post (k i) P R := by
  cases d with
  | int i => exact ⟨i, rfl, h⟩
  | _ => exact h.elim
/-- a pair taken apart -/
def un2 {α β γ : Type} (k : α → β → γ) (p : α × β) : γ := k p.1 p.2
theorem Post.un2 {α β γ : Type} {k : α → β → Res γ} {a : α} {b : β} {P : γ → Prop} {R : Err → Prop} (h : Post (Y.un2 k (a, b)) P R) : Post (k a b) P R := h
/-- a thing that is a list | a tuple -/
def asL (d : D) : Res (List D) := match d with | .lst l => .ok l | _ => .stuck
def asT (d : D) : Res (List D) := match d with | .tup l => .ok l | _ => .stuck
theorem enc_Ds (l : List D) : (l.map enc : List D) = l := List.map_id' _
theorem Post.asL {β : Type} {d : D} {k : List D → Res β} {P : β → Prop} {R : Err → Prop} (h : Post ((Y.asL d).bind k) P R) : ∃ l : List D, d = .lst (l.map enc) ∧ Post (k l) P R := by
  cases d with
  | lst l => exact ⟨l, by rw [enc_Ds], h⟩
  | _ => exact h.elim
theorem Post.asT {β : Type} {d : D} {k : List D → Res β} {P : β → Prop} {R : Err → Prop} (h : Post ((Y.asT d).bind k) P R) : ∃ l : List D, d = .tup (l.map enc) ∧ Post (k l) P R := by
  cases d with
  | tup l => exact ⟨l, by rw [enc_Ds], h⟩
  | _ => exact h.elim
section
variable {K : PySem.W.Frag} {B H : Hp} {Q : VK} {p : Addr} {xs : List V}
theorem RepL.bools : ∀ {xs : List V} {bs : List Bool}, RepL K B xs (bs.map enc) → xs = bs.map V.bl
  | [], [], _ => rfl
  | _ :: _, [], r => nomatch r
  | [], _ :: _, r => nomatch r
  | v :: vs, b :: bs, r => by
    cases r with
    | cons h t =>
      cases h
      rw [RepL.bools t]
      rfl
theorem RepL.intsV : ∀ {xs : List V} {bs : List Int}, RepL K B xs (bs.map enc) → xs = bs.map V.int
  | [], [], _ => rfl
  | _ :: _, [], r => nomatch r
  | [], _ :: _, r => nomatch r
  | v :: vs, b :: bs, r => by
    cases r with
    | cons h t =>
      cases h
      rw [RepL.intsV t]
      rfl
theorem h_all {bs : List Bool} (s : SqL K H p xs) (r : RepL K B xs (bs.map enc)) (h : Q (.bl (bs.all id)) H) : rAll K [.ref p] H Q := ⟨p, bs, rfl, by rw [← r.bools]; exact s, h⟩
theorem h_any {bs : List Bool} (s : SqL K H p xs) (r : RepL K B xs (bs.map enc)) (h : Q (.bl (bs.any id)) H) : rAny K [.ref p] H Q := ⟨p, bs, rfl, by rw [← r.bools]; exact s, h⟩
theorem h_sum {ns : List Int} (s : SqL K H p xs) (r : RepL K B xs (ns.map enc)) (h : Q (.int ns.sum) H) : rSum K [.ref p] H Q := ⟨p, ns, rfl, by rw [← r.intsV]; exact s, h⟩
end
/-! ### the top -/
/-- the law's promise -/
def spTop (K : PySem.W.Frag) : Sp := fun vs H Q _ => ∃ (a : Addr) (ns : List Int), vs = [.ref a] ∧ ns.length ≤ 63 ∧ SqL K H a (ns.map V.int) ∧ ∀ H', Q (.bl true) H'
theorem top_of {K : PySem.W.Frag} {m : List Int → Res Bool} (hm : ∀ ns : List Int, ns.length ≤ 63 → m ns = .ok true) {vs : List V} {H : Hp} {Q : VK} {E : XK} (h : spTop K vs H Q E) :
    ∃ (B : Hp) (v : V) (a : List Int), Ex B H ∧ vs = [v] ∧ Bor K B H [] v (a.map enc) ∧ Post (m a) (fun r => Ret K [] B H (enc r) Q) (fun _ => False) := by
  obtain ⟨a, ns, e, hl, hs, k⟩ := h
  refine ⟨H, .ref a, ns, Ex.refl H, e, ⟨a, _, rfl, ?_, RepL.ints ns⟩, ?_⟩
  · rcases hs with hs | hs
    · exact .inl ⟨hs, fun z => nomatch z⟩
    · exact .inr hs
  · rw [hm ns hl]
    refine ⟨fun v B' H' st r => ?_⟩
    cases r
    exact k H'
theorem walk_top {l : PySem.W.OpenLaw} {q : Program} {loose : List Str} {XP : (Str → Option Value) → Heap → Prop} {YP : World → Heap → Prop} {d : DefRec} {K : Params → PySem.W.Frag} {x : Str} {k : Nat} (hn : l.most = some 63) (hdf : d.params.defaults = [])
    (hr : Room k callerA) (hY : ∀ (w : World) (h : Heap), YP w h → (K w.params).In h)
    (F : ∀ (w : World) (mg : Str → Option Value) (fa : Addr) (h : Heap), (K w.params).In h → h.Ns mainGlobals mg → mg d.name = some (.ref fa) →
      ∃ fd : FuncData, (∀ (s : Shared) (u : Value), BindsTo s fd ⟨[u], []⟩ [(x, u)]) ∧ ∀ base : Heap, (K w.params).In base → base.Ns mainGlobals mg → FnOk l.prog w (K w.params) mg base CX0 k fa fd [x] (spTop (K w.params))) :
    PySem.W.WalkO q loose XP YP l.row.toRowW d [] (fun f vs => PySem.call f vs) :=
  L2.walk_of (n := 63) (k := k) (x := x) (CX := fun _ => CX0) (sp := fun w => spTop (K w.params)) hn (by decide) hdf hr hY F (fun _ _ a ns hl _ hS => ⟨a, ns, rfl, hl, hS, fun _ => rfl⟩) fun _ _ _ _ _ z => z
/-- how its arguments bind by keywords -/
theorem _root_.L2.Fun.kb {K : PySem.W.Frag} {x qual : Str} {st : Stmt} {f : Addr} {fd : FuncData} {ps ks : List Str} {g : List Value → List Value → List Value} {gV : List V → List V → List V} (F : Fun K x qual st f fd)
    (h : ∀ (kV doc pm : Value) (an : Option Addr) (cdv ct : Value) (us ws : List Value), (g us ws).length = ps.length → bindArgs (PySem.W.fnOf x qual (defArgs st) (defBody st) (defScope st) .none kV doc pm an cdv ct) ⟨us, ks.zip ws⟩ = pure (ps.zip (g us ws)))
    (r : ∀ {vs : List V} {us : List Value} {zs : List V} {ws : List Value}, Vals vs us → Vals zs ws → Vals (gV vs zs) (g us ws)) : KBinds K fd ps ks g gV := by
  obtain ⟨oc, od, kV, doc, pm, an, cdv, ct, osl, rfl, lk, hcd⟩ := F.ex
  exact ⟨fun s us ws _ hl => .of_eq (h kV doc pm an cdv ct us ws hl), r⟩

/-! ### while -/
def whileR {S R : Type} : Nat → S → (S → Res (Fl S R)) → Res (Fl S R)
  | 0, _, _ => .stuck
  | n + 1, s, g => (g s).bind fun r => match r with | .nx s' => whileR n s' g | r => .ok r
section
variable {K : PySem.W.Frag} {σ : L2.St} {H : Hp} {Q : VK} {tb t : TS} {c : TT} {D' : Ends} {S β : Type} {P : β → Prop} {E : Err → Prop}
theorem h_while {n : Nat} {s0 : S} {f : S → Res (Fl S β)} {k : S → Res β} (hP : Post ((whileR n s0 f).bind (afterR k)) P E) (J : S → L2.St → Hp → Prop) (h0 : J s0 σ H)
    (hb : ∀ (N : L2.St → Hp → Prop) (C : (L2.St → Hp → Prop) → Prop) (T : Fl S β → Prop) s σ' H', J s σ' H' → C N → (∀ s' σ2 H2, J s' σ2 H2 → T (.nx s') → N σ2 H2) → (∀ r, T (.rt r) → P r) → (∀ s' σ2 H2, J s' σ2 H2 → T (.bk s') → D'.nx σ2 H2) → Post (f s) T E →
      c σ' H' fun b H1 => if b = true then ∃ N, C N ∧ tb { D' with nx := N, ct := N, bk := D'.nx } σ' H1 else D'.nx σ' H1)
    (hd : ∀ s σ' H', J s σ' H' → Post (k s) P E → D'.nx σ' H') : tWhile c tb D' σ H := by
  refine ⟨fun m σ' H' => ∃ s, J s σ' H' ∧ Post (whileR m s f) (fun a => Post (afterR k a) P E) E, ⟨n, s0, h0, hP.bind⟩, ?_⟩
  rintro m σ' H' ⟨s, j, q⟩
  cases m with
  | zero => exact Post.elim q
  | succ m =>
    refine hb (fun σ2 H2 => ∃ s', J s' σ2 H2 ∧ Post (whileR m s' f) (fun a => Post (afterR k a) P E) E) (fun N => ∀ σ2 H2, N σ2 H2 → ∃ m', m' < m + 1 ∧ ∃ s, J s σ2 H2 ∧ Post (whileR m' s f) (fun a => Post (afterR k a) P E) E)
      (fun r => match r with | .nx s' => Post (whileR m s' f) (fun a => Post (afterR k a) P E) E | .rt r => Post (.ok r) P E | .bk s' => Post (k s') P E) s σ' H' j (fun σ2 H2 h => ⟨m, Nat.lt_succ_self m, h⟩)
      (fun s' σ2 H2 j2 t2 => ⟨s', j2, t2⟩) (fun r t2 => Post.ok t2) (fun s' σ2 H2 j2 t2 => hd s' σ2 H2 j2 t2) ?_
    refine (Post.bind q).mono (fun r q => ?_) fun _ q => q
    cases r with
    | nx s' => exact q
    | rt r => exact q.ok
    | bk s' => exact q.ok
theorem h_par {i j : Nat} {ta : TA} (h : ta σ H fun vs H1 => ∃ v w, vs = [v, w] ∧ D'.nx ((σ.set i (some v)).set j (some w)) H1) : tPar i j ta D' σ H := h
theorem h_two {N : V → V → Prop} {x y : V} (h : N x y) : ∃ v w, [x, y] = [v, w] ∧ N v w := ⟨x, y, rfl, h⟩

/-! ### errors -/
def tryR {α : Type} (m : Res α) (h : Err → Res α) : Res α := match m with | .ok a => .ok a | .err e => h e | .stuck => .stuck
theorem Post.tr {α : Type} {m : Res α} {h : Err → Res α} {P : α → Prop} {R : Err → Prop} (q : Post (tryR m h) P R) : Post m P (fun e => Post (h e) P R) := by
  obtain ⟨q⟩ := q
  refine ⟨?_⟩
  cases m
  · exact q
  · exact ⟨q⟩
  · exact q
theorem h_tryJ {m : Res (Fl S β)} {h : Err → Res (Fl S β)} {k : S → Res β} (hP : Post ((tryR m h).bind (afterR k)) P E) (J : S → L2.St → Hp → Prop)
    (h1 : ∀ (N : L2.St → Hp → Prop) (T : Fl S β → Prop), (∀ s σ' H', J s σ' H' → T (.nx s) → N σ' H') → (∀ r, T (.rt r) → P r) → Post m T (fun e => Post (h e) T E) → t { D' with nx := N } σ H)
    (h2 : ∀ s σ' H', J s σ' H' → Post (k s) P E → D'.nx σ' H') : t D' σ H := by
  refine h1 _ (fun a => Post (afterR k a) P E) (fun s σ' H' j q => h2 s σ' H' j q) (fun r q => (q : Post (.ok r) P E).ok) ?_
  exact (Post.bind hP).tr
/-- what the written part says of an error's class -/
structure ExcT (K : PySem.W.Frag) (mg : Str → Option Value) (nm : Str) (C : Addr) : Prop where
  g : mg nm = some (.ref C)
  ec : ExcC K C
  ty : PySem.W.typeIn K (.ref C) = some (.type "type")
  kp : PySem.W.keepIn K (.ref C) = true
  ve : PySem.W.subIn K (.ref C) (.type "ValueError") = some true
  is : PySem.W.isClsIn K C = true
  self : PySem.W.subIn K (.ref C) (.ref C) = some true
/-- an error that is raised with a text alone -/
structure ExcR (K : PySem.W.Frag) (mg : Str → Option Value) (nm : Str) (C : Addr) : Prop extends ExcT K mg nm C where
  ex : PySem.W.excIn K C [.type "ValueError", .type "Exception", .type "BaseException", .type "object"] "ValueError.__new__" = true
theorem ExcT.names {X : Cx} {nm : Str} {C : Addr} (T : ExcT X.K X.mg nm C) (hg : Gl X nm) (hd : (nm == ("__debug__" : Str)) = false) : Names X nm (.ref C) := ⟨hg, hd, .inl T.g⟩
theorem ExcT.exm {mg : Str → Option Value} {nm : Str} {C : Addr} (T : ExcT K mg nm C) {cls : Value} {b : Bool} (h : PySem.W.subIn K cls (.ref C) = some b) : PySem.W.exmOne K cls (.ref C) = some b := PySem.W.exm_ref T.ec.hs T.ec.hd T.ty h
theorem ExcT.kit {mg : Str → Option Value} {nm : Str} {C C2 : Addr} (T : ExcT K mg nm C) {b : Bool} (h : PySem.W.subIn K (.ref C2) (.ref C) = some b) : PySem.W.kitOne K (.ref C2) (.ref C) = some b := by
  unfold PySem.W.kitOne
  by_cases e : (Value.ref C2 == Value.ref C) = true
  · rw [if_pos e]
    have e2 : C2 = C := Value.ref.inj (beq_iff_eq.mp e)
    subst e2
    exact T.self.symm.trans h
  · rw [if_neg e]
    have h2 : (PySem.W.clsIn K C).isSome = true := T.is
    show (if ((PySem.W.clsIn K C).isSome && PySem.W.typeIn K (.ref C) == some (.type "type")) = true then PySem.W.subIn K (.ref C2) (.ref C) else none) = some b
    rw [if_pos (by rw [h2, T.ty] <;> rfl)]
    exact h
theorem ExcT.kitVE {mg : Str → Option Value} {nm : Str} {C : Addr} (T : ExcT K mg nm C) : PySem.W.kitOne K (.ref C) (.type "ValueError") = some true := by
  unfold PySem.W.kitOne
  rw [if_neg (by simp)]
  show (if PySem.W.kitMeta "ValueError" = true then PySem.W.subIn K (.ref C) (.type "ValueError") else none) = some true
  rw [if_pos (by decide +kernel)]
  exact T.ve
def tIsE (K : PySem.W.Frag) (a : Addr) (cls : Value) (d : Option Addr) (targs : TA) : TE := fun σ H Q => ∃ Dc, cls = .ref Dc ∧ d = none ∧ ExcC K Dc ∧ tCB (rIsE K Dc a) targs σ H Q
theorem pe_isE {X : Cx} {e : Expr} {a : Addr} {cls : Value} {d : Option Addr} {targs : TA} (hK : X.K = K) (h : ∀ Dc, cls = .ref Dc → d = none → ExcC K Dc → PE X e (tCB (rIsE K Dc a) targs)) : PE X e (tIsE K a cls d targs) :=
  ⟨fun pins s σ H Q I q => by
    obtain ⟨Dc, e1, e2, ec, q⟩ := q
    exact (h Dc e1 e2 ec).run pins s σ H Q I q⟩
theorem h_isE {a C : Addr} {targs : TA} {mg : Str → Option Value} {nm : Str} (T : ExcT K mg nm C) (h : targs σ H fun vs H1 => rIsE K C a vs H1 Q) : tIsE K a (.ref C) none targs σ H Q := ⟨C, rfl, rfl, T.ec, h⟩
theorem h_isER {a C C2 : Addr} {b : Bool} (h : PySem.W.kitOne K (.ref C) (.ref C2) = some b) (q : Q (.bl b) H) : rIsE K C a [.ref a, .ref C2] H Q := ⟨.ref C2, .ref C2, b, rfl, fun _ r => r, h, q⟩
theorem h_isEB {a C : Addr} {n : String} {b : Bool} (h : PySem.W.kitOne K (.ref C) (.type n) = some b) (q : Q (.bl b) H) : rIsE K C a [.ref a, .ty n] H Q := ⟨.ty n, .type n, b, rfl, fun _ r => r, h, q⟩
/-- the clause of a try meets the error -/
theorem h_wAs {C S' : Addr} {i : Nat} {ts : Addr → Value → Option Addr → TS} {Wout : WX} {mg : Str → Option Value} {nm : Str} (T : ExcT K mg nm S') (hs : PySem.W.subIn K (.ref C) (.ref S') = some true)
    (h : ∀ a, H a = none → ts a (.ref C) none { nx := fun σ' H' => D'.nx (σ'.set i none) H', rt := D'.rt, bk := fun σ' H' => D'.bk (σ'.set i none) H', ct := fun σ' H' => D'.ct (σ'.set i none) H' } (σ.set i (some (.ref a))) H) :
    wAs K (.ref S') i ts Wout D' (.ref C) none σ H := ⟨true, T.exm hs, fun _ a ha => h a ha, fun q => nomatch q⟩
theorem h_wOnly {C S' : Addr} {ts : Addr → Value → Option Addr → TS} {Wout : WX} {mg : Str → Option Value} {nm : Str} (T : ExcT K mg nm S') (hs : PySem.W.subIn K (.ref C) (.ref S') = some true)
    (h : ∀ a, H a = none → ts a (.ref C) none D' σ H) : wOnly K (.ref S') ts Wout D' (.ref C) none σ H := ⟨true, T.exm hs, fun _ a ha => h a ha, fun q => nomatch q⟩
end

/-! ### a try by its name -/
def tTryA (K : PySem.W.Frag) (c : Value) (i : Nat) (ts : Addr → Value → Option Addr → TS) (Wout : WX) (tb : WX → TS) : TS := fun D σ H => tb (wAs K c i ts Wout D) D σ H
def tTryO (K : PySem.W.Frag) (c : Value) (ts : Addr → Value → Option Addr → TS) (Wout : WX) (tb : WX → TS) : TS := fun D σ H => tb (wOnly K c ts Wout D) D σ H
section
variable {X : Cx} {n x : Str} {c : Value} {i : Nat} {body suite : List Stmt} {b₀ : Stmt} {np pos pos' : Pos} {tb : WX → TS} {ts : Addr → Value → Option Addr → TS} {Wout : WX} {D' : Ends} {σ : L2.St} {H : Hp} {K : PySem.W.Frag}
theorem ps_tryA (hs : X.stack = X.env :: X.outer) (hf : X.env.frame = some X.env.locals) (hN : X.N.Nodup) (hi : X.N[i]? = some n) (hln : X.env.kindOf n = some .local) (hc : Names X x c) (tk : Takes X Wout)
    (hb : ∀ (W : WX) (pn : List (Addr × Obj)) (xe : Value → Shared → Prop), Takes (X.tr pn xe) W → PassesOwn (model X.prog X.w) X.A X.env xe → PSs (X.tr pn xe) body (tb W))
    (hsu : ∀ (a : Addr) (oe : Obj) (cls : Value) (d : Option Addr) (pn : List (Addr × Obj)), Zc cls d oe → (∃ vs, oe.data = .fields vs) → PSs (X.suite a ((a, oe) :: pn)) (b₀ :: suite) (ts a cls d)) (hK : X.K = K := by rfl) :
    PS X (.Try body [.ExceptHandler (some (.Name x np)) (some n) (b₀ :: suite) pos'] [] [] pos) (tTryA K c i ts Wout tb) := hK ▸ ps_try_as hs hf hN hi hln hc tk hb hsu
theorem ps_tryO (hs : X.stack = X.env :: X.outer) (hf : X.env.frame = some X.env.locals) (hc : Names X x c) (tk : Takes X Wout)
    (hb : ∀ (W : WX) (pn : List (Addr × Obj)) (xe : Value → Shared → Prop), Takes (X.tr pn xe) W → PassesOwn (model X.prog X.w) X.A X.env xe → PSs (X.tr pn xe) body (tb W))
    (hsu : ∀ (a : Addr) (oe : Obj) (cls : Value) (d : Option Addr) (pn : List (Addr × Obj)), Zc cls d oe → (∃ vs, oe.data = .fields vs) → PSs (X.suite a ((a, oe) :: pn)) (b₀ :: suite) (ts a cls d)) (hK : X.K = K := by rfl) :
    PS X (.Try body [.ExceptHandler (some (.Name x np)) none (b₀ :: suite) pos'] [] [] pos) (tTryO K c ts Wout tb) := hK ▸ ps_try_only hs hf hc tk hb hsu
theorem h_tryA (h : tb (wAs K c i ts Wout D') D' σ H) : tTryA K c i ts Wout tb D' σ H := h
theorem h_tryO (h : tb (wOnly K c ts Wout D') D' σ H) : tTryO K c ts Wout tb D' σ H := h
end
theorem Post.mono2 {α : Type} {m : Res α} {P P' : α → Prop} {R R' : Err → Prop} (h : Post m P R) (hr : ∀ e, R e → R' e) (hp : ∀ a, P a → P' a) : Post m P' R' := h.mono hp hr
theorem boot_ValueError : bootBuiltins "ValueError" = some (.type "ValueError") := by decide +kernel
/-! ### things that are lists or tuples -/
def lenD (d : D) : Res Int := match d with | .lst l => .ok l.length | .tup l => .ok l.length | .str x => .ok x.length | _ => .stuck
section
variable {K : PySem.W.Frag} {B H : Hp} {Q : VK} {v : V} {d : D} {σ : L2.St} {g : TGs}
theorem Post.lenD {β : Type} {k : Int → Res β} {P : β → Prop} {R : Err → Prop} (h : Post ((Y.lenD d).bind k) P R) (hs : ∀ x, d ≠ .str x) : ∃ ds : List D, (d = .lst ds ∨ d = .tup ds) ∧ Post (k ds.length) P R := by
  cases d with
  | lst l => exact ⟨l, .inl rfl, h⟩
  | tup l => exact ⟨l, .inr rfl, h⟩
  | str x => exact absurd rfl (hs x)
  | _ => exact h.elim
theorem h_tupG {n : Nat} {p : Addr} {xs : List V} {N : L2.St → Hp → Prop} (s : SqT K H p xs) (hl : xs.length = n) (h : g xs σ H N) : gTup K n g (.ref p) σ H N := ⟨p, xs, rfl, s, hl, h⟩
theorem h_gcons {t : TG} {u : TGs} {x : V} {xs : List V} {N : L2.St → Hp → Prop} (h : t x σ H fun σ' H' => u xs σ' H' N) : gCons t u (x :: xs) σ H N := ⟨x, xs, rfl, h⟩
theorem h_gnil {N : L2.St → Hp → Prop} (h : N σ H) : gNil [] σ H N := ⟨rfl, h⟩
end

section
variable {K : PySem.W.Frag} {B H : Hp} {Q : VK} {p : Addr} {xs : List V} {d1 d2 d3 d4 d5 : D}
theorem h_lenTl {l : List D} (s : SqT K H p xs) (r : RepL K B xs (l.map enc)) (h : Q (.int l.length) H) : rLenY K [V.ref p] H Q := by
  refine ⟨p, xs, rfl, .inr s, ?_⟩
  rw [show xs.length = l.length from by rw [r.length, List.length_map]]
  exact h
theorem tup2 {x y : V} (hl : xs.length = 2) (h0 : atI xs 0 = some x) (h1 : atI xs 1 = some y) : xs = [x, y] := by
  match xs, hl with
  | [a, b], _ =>
    have e0 : a = x := Option.some.inj h0
    have e1 : b = y := Option.some.inj h1
    rw [e0, e1]
theorem tup3 {x y z : V} (hl : xs.length = 3) (h0 : atI xs 0 = some x) (h1 : atI xs 1 = some y) (h2 : atI xs 2 = some z) : xs = [x, y, z] := by
  match xs, hl with
  | [a, b, c], _ =>
    have e0 : a = x := Option.some.inj h0
    have e1 : b = y := Option.some.inj h1
    have e2 : c = z := Option.some.inj h2
    rw [e0, e1, e2]
theorem tup4 {x y z u : V} (hl : xs.length = 4) (h0 : atI xs 0 = some x) (h1 : atI xs 1 = some y) (h2 : atI xs 2 = some z) (h3 : atI xs 3 = some u) : xs = [x, y, z, u] := by
  match xs, hl with
  | [a, b, c, d], _ =>
    have e0 : a = x := Option.some.inj h0
    have e1 : b = y := Option.some.inj h1
    have e2 : c = z := Option.some.inj h2
    have e3 : d = u := Option.some.inj h3
    rw [e0, e1, e2, e3]
theorem RepL.open2 (r : RepL K B xs [d1, d2]) : ∃ u1 u2, xs = [u1, u2] ∧ Rep K B u1 d1 ∧ Rep K B u2 d2 := by
  cases r with | cons h1 r => cases r with | cons h2 r => cases r; exact ⟨_, _, rfl, h1, h2⟩
theorem RepL.open3 (r : RepL K B xs [d1, d2, d3]) : ∃ u1 u2 u3, xs = [u1, u2, u3] ∧ Rep K B u1 d1 ∧ Rep K B u2 d2 ∧ Rep K B u3 d3 := by
  cases r with | cons h1 r => cases r with | cons h2 r => cases r with | cons h3 r => cases r; exact ⟨_, _, _, rfl, h1, h2, h3⟩
theorem RepL.open4 (r : RepL K B xs [d1, d2, d3, d4]) : ∃ u1 u2 u3 u4, xs = [u1, u2, u3, u4] ∧ Rep K B u1 d1 ∧ Rep K B u2 d2 ∧ Rep K B u3 d3 ∧ Rep K B u4 d4 := by
  cases r with | cons h1 r => cases r with | cons h2 r => cases r with | cons h3 r => cases r with | cons h4 r => cases r; exact ⟨_, _, _, _, rfl, h1, h2, h3, h4⟩
end
/-! ### defs with defaults -/
structure FunV (K : PySem.W.Frag) (x qual : Str) (st : Stmt) (dv : List Value) (f : Addr) (fd : FuncData) : Prop where
  ex : ∃ (oc : Value) (od : Option Addr) (T : Addr) (o : Obj) (n : Nat) (kV doc pm : Value) (an : Option Addr) (cdv ct : Value) (osl : Array (Option Value)),
    fd = PySem.W.fnOf x qual (defArgs st) (defBody st) (defScope st) (.ref T) kV doc pm an cdv ct ∧ K.lookup f = some ⟨oc, od, .func fd, osl⟩ ∧ PySem.W.codeIn K cdv qual = true ∧ K.lookup T = some o ∧ o.data = .seq dv.toArray n
  kp : PySem.W.keepIn K (.ref f) = true
section
variable {P : Program} {w : World} {K : PySem.W.Frag} {mg : Str → Option Value} {base : Heap} {x qual : Str} {st : Stmt} {dv : List Value} {f : Addr} {fd : FuncData} {ps ks : List Str}
theorem funV_mk {oc : Value} {od an oT : Option Addr} {osl sT : Array (Option Value)} {kV doc pm cdv ct cT : Value} {T : Addr} {n : Nat} (l : K.lookup f = some ⟨oc, od, .func (PySem.W.fnOf x qual (defArgs st) (defBody st) (defScope st) (.ref T) kV doc pm an cdv ct), osl⟩)
    (c : PySem.W.codeIn K cdv qual = true) (k : PySem.W.keepIn K (.ref f) = true) (lT : K.lookup T = some ⟨cT, oT, .seq dv.toArray n, sT⟩) : FunV K x qual st dv f (PySem.W.fnOf x qual (defArgs st) (defBody st) (defScope st) (.ref T) kV doc pm an cdv ct) :=
  ⟨⟨oc, od, T, _, n, kV, doc, pm, an, cdv, ct, osl, rfl, l, c, lT, rfl⟩, k⟩
theorem FunV.okX {N : List Str} {k : Nat} {sp : Sp} (F : FunV K x qual st dv f fd) (S : FnScope N ps (defScope st)) (len : ∀ vs H Q E, sp vs H Q E → vs.length = ps.length)
    (hbody : ∀ (cdv : Value) (A : Around) (outer : List Env) (s : Shared) (H : Hp) (vs : List V) (Q : VK) (E : XK), Room k (A.deeper (envOfC qual (defScope st) s.heap.objs.size f cdv)) → sp vs H Q E →
      ∃ t, PSs (cxOf (L2.CX P w) P w K mg base N qual (defScope st) f cdv A outer s H E) (defBody st) t ∧ t { nx := fun _ H' => Q .non H', rt := Q } (start N vs) H) : FnOk P w K mg base (L2.CX P w) (k + 1) f fd ps sp := by
  obtain ⟨oc, od, T, o, n, kV, doc, pm, an, cdv, ct, osl, rfl, lk, hcd, _, _⟩ := F.ex
  exact fn_of lk hcd S len fun A outer s H vs Q E hr hsp => hbody cdv A outer s H vs Q E hr hsp
theorem FunV.ok {N : List Str} {k : Nat} {sp : Sp} (F : FunV K x qual st dv f fd) (S : FnScope N ps (defScope st)) (len : ∀ vs H Q E, sp vs H Q E → vs.length = ps.length)
    (hbody : ∀ (cdv : Value) (A : Around) (outer : List Env) (s : Shared) (H : Hp) (vs : List V) (Q : VK) (E : XK), Room k (A.deeper (envOfC qual (defScope st) s.heap.objs.size f cdv)) → sp vs H Q E →
      ∃ t, PSs (cxOf CX0 P w K mg base N qual (defScope st) f cdv A outer s H E).nox (defBody st) t ∧ t { nx := fun _ H' => Q .non H', rt := Q } (start N vs) H) : FnOk P w K mg base CX0 (k + 1) f fd ps sp := by
  obtain ⟨oc, od, T, o, n, kV, doc, pm, an, cdv, ct, osl, rfl, lk, hcd, _, _⟩ := F.ex
  refine fn_of lk hcd S len fun A outer s H vs Q E hr hsp => ?_
  obtain ⟨t, h, q⟩ := hbody cdv A outer s H vs Q E hr hsp
  exact ⟨t, h.nox, q⟩
/-- n values are written, the defaults behind the first j fill up -/
theorem FunV.binds (F : FunV K x qual st dv f fd) (n j : Nat) (hn : n + (dv.length - j) = ps.length)
    (h : ∀ (T : Addr) (kV doc pm : Value) (an : Option Addr) (cdv ct : Value) (us : List Value), us.length = n →
      ∃ k, bindArgs (PySem.W.fnOf x qual (defArgs st) (defBody st) (defScope st) (.ref T) kV doc pm an cdv ct) ⟨us, []⟩ = seqItems? (.ref T) >>= k ∧ k (some dv.toArray) = pure (ps.zip (us ++ dv.drop j))) : Binds K fd ps (dv.drop j) := by
  obtain ⟨oc, od, T, o, m, kV, doc, pm, an, cdv, ct, osl, rfl, lk, hcd, lT, oT⟩ := F.ex
  refine fun s us X hlen => ?_
  have l2 : us.length = n := by
    rw [List.length_append, List.length_drop] at hlen
    omega
  obtain ⟨k, e1, e2⟩ := h T kV doc pm an cdv ct us l2
  refine BindsTo.of_looks fun M => ?_
  rw [e1]
  exact looks_items X lT oT (.of_pure e2)
theorem FunV.kb {g : List Value → List Value → List Value} {gV : List V → List V → List V} (F : FunV K x qual st dv f fd)
    (h : ∀ (T : Addr) (kV doc pm : Value) (an : Option Addr) (cdv ct : Value) (us ws : List Value), (g us ws).length = ps.length → ∃ k, bindArgs (PySem.W.fnOf x qual (defArgs st) (defBody st) (defScope st) (.ref T) kV doc pm an cdv ct) ⟨us, ks.zip ws⟩ = seqItems? (.ref T) >>= k ∧ k (some dv.toArray) = pure (ps.zip (g us ws)))
    (r : ∀ {vs : List V} {us : List Value} {zs : List V} {ws : List Value}, Vals vs us → Vals zs ws → Vals (gV vs zs) (g us ws)) : KBinds K fd ps ks g gV := by
  obtain ⟨oc, od, T, o, m, kV, doc, pm, an, cdv, ct, osl, rfl, lk, hcd, lT, oT⟩ := F.ex
  refine ⟨fun s us ws X hl => ?_, r⟩
  obtain ⟨k, e1, e2⟩ := h T kV doc pm an cdv ct us ws hl
  refine BindsTo.of_looks fun M => ?_
  rw [e1]
  exact looks_items X lT oT (.of_pure e2)
end
/-! ### // by what may be negative -/
def CDivZ (_ j : Int) : Prop := j ≠ 0 ∧ j.natAbs.log2 < 9000
instance {i j : Int} : Decidable (CDivZ i j) := inferInstanceAs (Decidable (_ ∧ _))
theorem op_fdivZ {X : Cx} : OpR X (binaryOp .FloorDiv) (rI CDivZ fun i j => .int (Int.fdiv i j)) := opI fun i j _ _ _ _ _ hc q => floordiv_int hc.1 q (.inl (PyProof.noPylong_of_log2 hc.2))
/-! ### x is None -/
def isNonD : D → Bool | .non => true | _ => false
def rIsN : V → V → Hp → VK → Prop := fun x y H Q => y = .non ∧ Q (.bl (decide (x = .non))) H
def rNotN : V → V → Hp → VK → Prop := fun x y H Q => y = .non ∧ Q (.bl (!decide (x = .non))) H
theorem op_isNn {X : Cx} : OpR X (compareOp .Is) rIsN := op_isN
theorem op_notNn {X : Cx} : OpR X (compareOp .IsNot) rNotN := op_notN
section
variable {K : PySem.W.Frag} {B H : Hp} {Q : VK} {v : V} {d : D}
theorem Rep.isNon (r : Rep K B v d) : decide (v = .non) = isNonD d := by
  cases r <;> rfl
theorem h_isN (r : Rep K B v d) (h : Q (.bl (isNonD d)) H) : rIsN v .non H Q := ⟨rfl, by rw [r.isNon]; exact h⟩
theorem h_notN (r : Rep K B v d) (h : Q (.bl (!isNonD d)) H) : rNotN v .non H Q := ⟨rfl, by rw [r.isNon]; exact h⟩
end
/-! ### bool + bool, comparisons of lists, xs[::-1], xs.pop(i) -/
theorem int_add_bb (a b : Bool) : Gives (Builtin.«int.__add__» ⟨[.bool a, .bool b], []⟩) (.int ((if a = true then (1 : Int) else 0) + (if b = true then (1 : Int) else 0))) :=
  .of_wp fun M A E s Q h => by obtain ⟨hp, g, d, tk, os⟩ := s; wp_walk; exact ⟨_, rfl, h⟩
def rAddBB : V → V → Hp → VK → Prop := fun x y H Q => ∃ a b, x = .bl a ∧ y = .bl b ∧ Q (.int (b2z a + b2z b)) H
theorem op_addBB {X : Cx} : OpR X (binaryOp .Add) rAddBB := by
  intro pins s σ H x y v u Q I rx ry h
  obtain ⟨a, b, rfl, rfl, q⟩ := h
  cases rx
  cases ry
  exact binaryOp_gives (op := .Add) (T := "bool") rfl rfl F.fills_bool_add F.slot_bool_add F.entry_int_add (F.args_int_add_2 _ _) (int_add_bb a b) trivial ⟨.int (b2z a + b2z b), H, I.tok _, ⟨_, rfl⟩, q⟩
def rAddIB : V → V → Hp → VK → Prop := fun x y H Q => ∃ i k, x = .int i ∧ y = .bl k ∧ Q (.int (i + b2i k)) H
theorem op_addIB {X : Cx} : OpR X (binaryOp .Add) rAddIB := op_add_ib
section
variable {K : PySem.W.Frag} {B B' H H' : Hp} {σ : L2.St} {Q : VK} {x y v : V} {d e : D} {p q : Addr} {xs ys : List V} {te : TE}
theorem h_addBB {a b : Bool} (h : Q (.int (b2z a + b2z b)) H) : rAddBB (.bl a) (.bl b) H Q := ⟨a, b, rfl, rfl, h⟩
theorem h_addIB {i : Int} {k : Bool} (h : Q (.int (i + b2z k)) H) : rAddIB (.int i) (.bl k) H Q := ⟨i, k, rfl, rfl, by cases k <;> exact h⟩
/-- what may be compared as data -/
def Cmp (K : PySem.W.Frag) (H : Hp) (v : V) (d : D) : Prop := flatD d = true → Dp K H v (pyD d)
theorem Rep.cp (w : Ex B H) (r : Rep K B v d) : Cmp K H v d := r.dp w
theorem SqL.cp {ds : List D} (w : Ex B H) (s : SqL K H p xs) (r : RepL K B xs ds) : Cmp K H (.ref p) (.lst ds) := fun f => .lst s (RepL.dp w r f)
theorem h_eqC (rx : Cmp K H x d) (ry : Cmp K H y e) (o : okEq d e) (h : Q (.bl (eqD d e)) H) : rEqD K x y H Q := ⟨_, _, rx o.1, ry o.2.1, o.2.2.1, o.2.2.2, h⟩
theorem h_neC (rx : Cmp K H x d) (ry : Cmp K H y e) (o : okEq d e) (h : Q (.bl (!eqD d e)) H) : rNeD K x y H Q := ⟨_, _, rx o.1, ry o.2.1, o.2.2.1, o.2.2.2, h⟩
/-- xs[::-1] -/
theorem h_revL (h : te σ H fun x H1 => ∃ a xs, x = .ref a ∧ SqL K H1 a xs ∧ NwL xs.reverse H1 Q) : tRevL K te σ H Q := h
theorem h_revQ (s : SqL K H p xs) (h : NwL xs.reverse H Q) : ∃ a ys, V.ref p = .ref a ∧ SqL K H a ys ∧ NwL ys.reverse H Q := ⟨p, xs, rfl, s, h⟩
theorem RepL.rev0 : ∀ {xs : List V} {ds : List D}, RepL K B xs ds → RepL K B xs.reverse ds.reverse
  | _, _, .nil => .nil
  | _, _, .cons h t => by rw [List.reverse_cons, List.reverse_cons]; exact (RepL.rev0 t).append (.cons h .nil)
theorem RepL.rev {α : Type} [Enc α] {l : List α} (r : RepL K B xs (l.map enc)) : RepL K B xs.reverse (l.reverse.map enc) := by
  rw [List.map_reverse]
  exact RepL.rev0 r
theorem RepL.erase : ∀ {xs : List V} {ds : List D} (k : Nat), RepL K B xs ds → RepL K B (xs.eraseIdx k) (ds.eraseIdx k)
  | _, _, _, .nil => .nil
  | _, _, 0, .cons h t => t
  | _, _, k + 1, .cons h t => .cons h (RepL.erase k t)
theorem map_erase {α : Type} [Enc α] : ∀ (l : List α) (k : Nat), (l.eraseIdx k).map (enc : α → D) = (l.map enc).eraseIdx k
  | [], _ => rfl
  | _ :: _, 0 => rfl
  | x :: xs, k + 1 => congrArg (enc x :: ·) (map_erase xs k)
/-- l.pop(i), i from 0 on -/
def popR {α : Type} (l : List α) (i : Int) : Res (α × List α) := if 0 ≤ i ∧ i < (l.length : Int) ∧ l.length ≤ 1000000 then match l[i.toNat]? with | some x => .ok (x, l.eraseIdx i.toNat) | none => .stuck else .stuck
theorem Post.pop {α β : Type} {l : List α} {i : Int} {k : α × List α → Res β} {P : β → Prop} {R : Err → Prop} (h : Post ((popR l i).bind k) P R) : ∃ x, (0 ≤ i ∧ i < (l.length : Int) ∧ l.length ≤ 1000000) ∧ l[i.toNat]? = some x ∧ Post (k (x, l.eraseIdx i.toNat)) P R := by
  unfold popR at h
  by_cases c : 0 ≤ i ∧ i < (l.length : Int) ∧ l.length ≤ 1000000
  · rw [if_pos c] at h
    cases e : l[i.toNat]? with
    | none => rw [e] at h; exact h.elim
    | some x => rw [e] at h; exact ⟨x, c, rfl, h⟩
  · rw [if_neg c] at h; exact h.elim
theorem h_popL {α : Type} [Enc α] {l : List α} {i : Int} {b : α} (w : Ex B H) (m : Mu K B H p (l.map enc)) (hi : 0 ≤ i ∧ i < (l.length : Int) ∧ l.length ≤ 1000000) (hb : l[i.toNat]? = some b)
    (h : ∀ y H', Stp [p] B H B H' → Mu K B H' p ((l.eraseIdx i.toNat).map enc) → Rep K B y (enc b) → Q y H') : rPopAt (.ref p) [.int i] H Q := by
  obtain ⟨hb0, xs, hp, hr⟩ := id m
  have hl : xs.length = l.length := by rw [hr.length, List.length_map]
  obtain ⟨u, hu, ru⟩ := hr.get (i := i.toNat) (d := enc b) (by rw [List.getElem?_map, hb]; rfl)
  have rl : RepL K B (xs.eraseIdx i.toNat) ((l.eraseIdx i.toNat).map enc) := by
    rw [map_erase]
    exact RepL.erase _ hr
  refine ⟨p, xs, i, i.toNat, u, rfl, rfl, hp, by omega, by omega, ?_, hu, ?_⟩
  · unfold seqIndex?
    rw [hl]
    simp [show ¬ i < 0 from by omega, hi.1, hi.2.1]
  · obtain ⟨s, m'⟩ := Stp.mut w m rl
    exact h _ _ s m' ru
end
theorem pg_tupK {X : Cx} {pos : Pos} {es : List Expr} {k : Nat} {t : TGs} {n : Nat} {K : PySem.W.Frag} (hc : X.calm = true) (hK : X.K = K) (h : PGs X es t)
    (hn : (assignEach es X.env).length = n := by rfl) (hst : (assignEach es X.env).findIdx? (·.1) = none := by rfl) : PG X (.Tuple es k pos) (gTup K n t) := hK ▸ pg_tup hc h hn hst
/-! ### l * k, casts, constants -/
theorem list_mulW (l : Addr) (items : Array Value) (n : Nat) (dd : Option Addr) (sl : Array (Option Value)) (x : Int) (u : Tok) (hc0 : ¬(!Builtin.List.listFitsIndex x) = true) (hc1 : ¬items.size * x.toNat > (2 ^ 63 - 1) / 8) (hc2 : ¬Builtin.List.listTooLong (items.size * x.toNat) = true) :
    Meets (Builtin.«list.__mul__» ⟨[.ref l, .int x u], []⟩) (fun _ R s => s.heap.get? l = some { cls := .type "list", dict := dd, data := .seq items n, slots := sl } ∧ R (.ok (.ret (Value.ref s.heap.objs.size))) { s with heap := s.heap.push { cls := Value.type "list", data := Data.seq (List.foldl (fun x1 x2 => x1 ++ x2) #[] (List.replicate (if items.isEmpty = true then 0 else x.toNat) items)) }, toks := s.toks }) :=
  .of_wp fun prog w A R s h => by
    obtain ⟨hp, g, d, tk, os⟩ := s; obtain ⟨hl, h⟩ := h
    have hsz := PySem.AutoListH.joined_fits hc2
    wp_walk; refine wpAny_ite_false (decide_eq_false (Nat.not_lt.mpr hsz)) ?_; wp_walk; exact ⟨_, rfl, h⟩
theorem int_rmulW (a : Int) (t : Tok) (l : Addr) (items : Array Value) (n : Nat) (dd : Option Addr) (sl : Array (Option Value)) :
    Meets (Builtin.«int.__rmul__» ⟨[.int a t, .ref l], []⟩) (fun _ R s => s.heap.get? l = some { cls := .type "list", dict := dd, data := .seq items n, slots := sl } ∧ R (.ok (.ret Value.notImplemented)) s) :=
  .of_wp fun prog w A R s h => by obtain ⟨hp, g, d, tk, os⟩ := s; obtain ⟨hl, h⟩ := h; wp_walk; exact ⟨_, rfl, h⟩
def rRepQ (K : PySem.W.Frag) : R2 := fun x y H Q => ∃ l k xs, x = .ref l ∧ y = .int k ∧ SqL K H l xs ∧ -(2 ^ 63) ≤ k ∧ k < 2 ^ 63 ∧ xs.length * k.toNat ≤ sizeLine ∧ NwL (List.replicate k.toNat xs).flatten H Q
theorem op_repQ {X : Cx} : OpR X (binaryOp .Mult) (rRepQ X.K) := by
  intro pins s σ H x y v u Q I rx ry h
  obtain ⟨l, k, xs, rfl, rfl, hH, h1, h2, hz, q⟩ := h
  cases rx
  obtain ⟨t, rfl⟩ := ry
  obtain ⟨its, r, p1, z⟩ := I.list hH
  have hl := r.length
  obtain ⟨⟨cls, dd, data, sl⟩, e, hc, n, hd⟩ := p1.isList
  simp only at hc hd
  subst hc hd
  have hlen : its.toArray.size * k.toNat ≤ sizeLine := by rw [List.size_toArray, ← hl]; exact hz
  have hcap : ¬ its.toArray.size * k.toNat > (2 ^ 63 - 1) / 8 := by
    have : (sizeLine : Nat) ≤ (2 ^ 63 - 1) / 8 := by decide
    omega
  have hfit : ¬ (!Builtin.List.listFitsIndex k) = true := by
    rw [fitsIndex_both h1 h2]
    exact Bool.false_ne_true
  have hlong : ¬ Builtin.List.listTooLong (its.toArray.size * k.toNat) = true := by
    rw [notLongL hlen]
    exact Bool.false_ne_true
  have hnew : List.foldl (fun x1 x2 => x1 ++ x2) #[] (List.replicate (if its.toArray.isEmpty = true then 0 else k.toNat) its.toArray) = (List.replicate k.toNat its).flatten.toArray := by
    have f0 : ∀ m : Nat, List.foldl (fun x1 x2 => x1 ++ x2) #[] (List.replicate m its.toArray) = (List.replicate m its).flatten.toArray := fun m => by
      have := foldl_rep its m []
      rw [List.nil_append] at this
      exact this
    rw [f0]
    cases its with
    | nil => simp
    | cons a r' => rw [if_neg (by simp)]
  refine wpAny_binaryOp_repeat_ref (T := "list") (U := "int") (by decide) ⟨_, e, rfl⟩ (fun s' => typeIs_int s' k t) noFill_list_mul F.fills_int_mul F.slot_int_rmul repeat_list F.slot_int_index.lookup
    (call_meets F.slot_int_rmul (typeIs_int s k t) F.entry_int_rmul (F.args_int_rmul_2 _ _) (int_rmulW k t l its.toArray n dd sl)
      ⟨e, rfl, ⟨_, e, rfl⟩, call_meets F.slot_list_mul ⟨_, e, rfl⟩ F.entry_list_mul (F.args_list_mul_2 _ _) (list_mulW l its.toArray n dd sl k t hfit hcap hlong) ⟨e, ?_⟩⟩)
  rw [hnew]
  exact ⟨.ref _, _, I.lnew (t' := s.toks) (r.rep k.toNat) (by rw [PyProof.Rows.lm_len_rep_flat, Nat.mul_comm]; exact hz), rfl, q _ I.fresh⟩
section
variable {K : PySem.W.Frag} {B B' H H' : Hp} {σ : L2.St} {Q : VK} {x y v : V} {d e : D} {p q : Addr} {xs ys : List V} {te : TE}
theorem h_repQ {k : Int} {n : Nat} (s : SqL K H p xs) (hn : xs.length = n) (hz : n * k.toNat ≤ 1000000 ∧ -(2 ^ 62) ≤ k ∧ k < 2 ^ 62) (h : NwL (List.replicate k.toNat xs).flatten H Q) : rRepQ K (.ref p) (.int k) H Q :=
  ⟨p, k, xs, rfl, rfl, s, by omega, by omega, by rw [hn]; exact Nat.le_trans hz.1 (by decide), h⟩
theorem RepL.rep0 {ds : List D} (r : RepL K B xs ds) : ∀ k : Nat, RepL K B (List.replicate k xs).flatten (List.replicate k ds).flatten
  | 0 => .nil
  | k + 1 => by rw [List.replicate_succ, List.replicate_succ, List.flatten_cons, List.flatten_cons]; exact r.append (RepL.rep0 r k)
/-- l * k -/
def timesL {α : Type} (l : List α) (k : Int) : List α := (List.replicate k.toNat l).flatten
theorem RepL.times {α : Type} [Enc α] {l : List α} (r : RepL K B xs (l.map enc)) (k : Int) : RepL K B (List.replicate k.toNat xs).flatten ((timesL l k).map enc) := by
  have e : (timesL l k).map (enc : α → D) = (List.replicate k.toNat (l.map enc)).flatten := by
    unfold timesL
    rw [List.map_flatten, List.map_replicate]
  rw [e]
  exact r.rep0 _
/-- isinstance of a list that is only read, or of our own -/
theorem isiL {t : String} {l : List D} (s : SqL K H p xs) (q : Q (.bl (isA t (.lst l))) H) (ht : t ∈ ["bool", "int", "str", "list", "tuple", "dict"] := by simp) : rIsi K [.ref p, .ty t] H Q := by
  have ty : TyX K H (.ref p) (.type "list") := by
    rcases s with (h | ⟨o, h⟩) | ⟨o, its, n, h, hc, _⟩
    · exact .base (.lst h)
    · exact .base (.frz h)
    · exact .kList h hc
  exact ⟨.ref p, .ty t, _, .type t, isA t (.lst l), rfl, .ty t, ty, kit_ty (kit_tab _ (tyD_in (.lst l) rfl) _ ht), q⟩
end
/-! ### things read as what they are -/
class Dec (α : Type) [Enc α] where
  dec : D → Option α
  ok : ∀ d x, dec d = some x → d = enc x
instance : Dec D := ⟨fun d => some d, fun d x e => Option.some.inj e⟩
instance : Dec Int := ⟨fun d => match d with | .int i => some i | _ => none, fun d x e => by cases d <;> simp at e; rw [e]; rfl⟩
instance : Dec Bool := ⟨fun d => match d with | .bl i => some i | _ => none, fun d x e => by cases d <;> simp at e; rw [e]; rfl⟩
instance : Dec Str := ⟨fun d => match d with | .str i => some i | _ => none, fun d x e => by cases d <;> simp at e; rw [e]; rfl⟩
instance {α : Type} [Enc α] [Dec α] : Dec (Option α) := ⟨fun d => match d with | .non => some none | d => (Dec.dec d).map some, fun d x e => by
  cases d with
  | non => cases Option.some.inj e; rfl
  | _ => all_goals
    obtain ⟨y, e1, e2⟩ := Option.map_eq_some_iff.mp (show Option.map some _ = some x from e)
    rw [← e2]
    show _ = (enc y : D)
    exact Dec.ok _ _ e1⟩
instance {α β : Type} [Enc α] [Enc β] [Dec α] [Dec β] : Dec (Tp2 α β) := ⟨fun d => match d with | .tup [a, b] => (Dec.dec a).bind fun x => (Dec.dec b).bind fun y => some ⟨x, y⟩ | _ => none, fun d x e => by
  split at e
  · obtain ⟨u, e1, e⟩ := Option.bind_eq_some_iff.mp e
    obtain ⟨w, e2, e⟩ := Option.bind_eq_some_iff.mp e
    cases Option.some.inj e
    rw [Dec.ok _ _ e1, Dec.ok _ _ e2]
    rfl
  · cases e⟩
instance {α β γ : Type} [Enc α] [Enc β] [Enc γ] [Dec α] [Dec β] [Dec γ] : Dec (Tp3 α β γ) := ⟨fun d => match d with | .tup [a, b, c] => (Dec.dec a).bind fun x => (Dec.dec b).bind fun y => (Dec.dec c).bind fun z => some ⟨x, y, z⟩ | _ => none, fun d x e => by
  split at e
  · obtain ⟨u, e1, e⟩ := Option.bind_eq_some_iff.mp e
    obtain ⟨w, e2, e⟩ := Option.bind_eq_some_iff.mp e
    obtain ⟨w2, e3, e⟩ := Option.bind_eq_some_iff.mp e
    cases Option.some.inj e
    rw [Dec.ok _ _ e1, Dec.ok _ _ e2, Dec.ok _ _ e3]
    rfl
  · cases e⟩
def decs {α : Type} [Enc α] [Dec α] : List D → Option (List α)
  | [] => some []
  | d :: ds => (Dec.dec d).bind fun x => (decs ds).bind fun xs => some (x :: xs)
theorem decs_ok {α : Type} [Enc α] [Dec α] : ∀ (ds : List D) (l : List α), decs ds = some l → ds = l.map enc
  | [], l, e => by cases Option.some.inj e; rfl
  | d :: ds, l, e => by
    obtain ⟨u, e1, e⟩ := Option.bind_eq_some_iff.mp e
    obtain ⟨w, e2, e⟩ := Option.bind_eq_some_iff.mp e
    cases Option.some.inj e
    rw [Dec.ok _ _ e1, decs_ok _ _ e2]
    rfl
instance {α : Type} [Enc α] [Dec α] : Dec (List α) := ⟨fun d => match d with | .lst ds => decs ds | _ => none, fun d x e => by
  split at e
  · rw [decs_ok _ _ e]; rfl
  · cases e⟩
def asD (α : Type) [Enc α] [Dec α] (d : D) : Res α := match Dec.dec d with | some x => .ok x | none => .stuck
theorem Post.asD {α β : Type} [Enc α] [Dec α] {d : D} {k : α → Res β} {P : β → Prop} {R : Err → Prop} (h : Post ((Y.asD α d).bind k) P R) : ∃ x, d = enc x ∧ Post (k x) P R := by
  unfold Y.asD at h
  cases e : Dec.dec (α := α) d with
  | none => rw [e] at h; exact h.elim
  | some x => rw [e] at h; exact ⟨x, Dec.ok _ _ e, h⟩
/-- what is there -/
def someR {α : Type} (o : Option α) : Res α := match o with | some x => .ok x | none => .stuck
theorem Post.some {α β : Type} {o : Option α} {k : α → Res β} {P : β → Prop} {R : Err → Prop} (h : Post ((someR o).bind k) P R) : ∃ x, o = Option.some x ∧ Post (k x) P R := by
  cases o with
  | none => exact h.elim
  | some x => exact ⟨x, rfl, h⟩
/-- a constant of the module: data that is written out -/
structure CT {α : Type} [Enc α] (K : PySem.W.Frag) (mg : Str → Option Value) (nm : Str) (C : Addr) (x : α) : Prop where
  g : mg nm = Option.some (.ref C)
  rep : ∀ B, Rep K B (.ref C) (enc x)
/-! ### defs that hand a new list back; l.pop() -/
def RetF (K : PySem.W.Frag) (W : List Addr) (B H : Hp) (ds : List D) (Q : VK) : Prop := ∀ p B' H', Stp W B H B' H' → H p = none → Mu K B' H' p ds → Q (.ref p) H'
def RetMF (K : PySem.W.Frag) (q : Addr) (B H : Hp) (ds es : List D) (Q : VK) : Prop := ∀ p B' H', Stp [q] B H B' H' → H p = none → Mu K B' H' p ds → Mu K B' H' q es → Q (.ref p) H'
def popE {α : Type} (l : List α) : Res (α × List α) := match l[l.length - 1]? with | some x => .ok (x, l.dropLast) | none => .stuck
theorem Post.popE {α β : Type} {l : List α} {k : α × List α → Res β} {P : β → Prop} {R : Err → Prop} (h : Post ((Y.popE l).bind k) P R) : ∃ x, l[l.length - 1]? = Option.some x ∧ Post (k (x, l.dropLast)) P R := by
  unfold Y.popE at h
  cases e : l[l.length - 1]? with
  | none => rw [e] at h; exact h.elim
  | some x => rw [e] at h; exact ⟨x, rfl, h⟩
section
variable {K : PySem.W.Frag} {B H : Hp} {Q : VK} {p : Addr} {xs : List V}
theorem RepL.dropLast : ∀ {xs : List V} {ds : List D}, RepL K B xs ds → RepL K B xs.dropLast ds.dropLast
  | _, _, .nil => .nil
  | _, _, .cons _ .nil => .nil
  | _, _, .cons h (.cons h2 t) => .cons h (RepL.dropLast (.cons h2 t))
theorem h_popE {α : Type} [Enc α] {l : List α} {b : α} (w : Ex B H) (m : Mu K B H p (l.map enc)) (hb : l[l.length - 1]? = some b)
    (h : ∀ y H', Stp [p] B H B H' → Mu K B H' p (l.dropLast.map enc) → Rep K B y (enc b) → Q y H') : rPop (.ref p) [] H Q := by
  obtain ⟨hb0, xs, hp, hr⟩ := id m
  have hl : xs.length = l.length := by rw [hr.length, List.length_map]
  obtain ⟨u, hu, ru⟩ := hr.get (i := l.length - 1) (d := enc b) (by rw [List.getElem?_map, hb]; rfl)
  have rl : RepL K B xs.dropLast (l.dropLast.map enc) := by
    rw [List.map_dropLast]
    exact RepL.dropLast hr
  obtain ⟨s, m'⟩ := Stp.mut w m rl
  exact ⟨p, xs, u, rfl, rfl, hp, by rw [hl]; exact hu, h _ _ s m' ru⟩
end
end Y

set_option Elab.async false
set_option linter.all false
set_option maxRecDepth 100000
set_option maxHeartbeats 2000000
namespace Y
open PySem PySem.Spec PyProof.Rows
open L2
open Enc (enc)
/-! # more readings: max of two, insert, enumerate -/
theorem h_fr {t : TS} {D' : Ends} {σ σ' : L2.St} {H : Hp} (e : σ = σ') (h : t D' σ' H) : t D' σ H := by rw [e]; exact h
def maxI (i j : Int) : Int := if j > i then j else i
def rMaxY : List V → Hp → VK → Prop := fun xs H Q => ∃ i j, xs = [.int i, .int j] ∧ Q (.int (if j > i then j else i)) H
theorem cr_max {X : Cx} (hc : X.calm = true) : CallR X (.builtin "max") rMaxY := call_max2 hc
theorem h_max {i j : Int} {H : Hp} {Q : VK} (h : Q (.int (maxI i j)) H) : rMaxY [.int i, .int j] H Q := ⟨i, j, rfl, h⟩
def rInsY : V → List V → Hp → VK → Prop := fun x vs H Q => ∃ (l : Addr) (xs : List V) (i : Int) (y : V), x = .ref l ∧ vs = [.int i, y] ∧ H l = some (.lst xs) ∧ xs.length < sizeLine ∧ 0 ≤ i ∧ i < 2 ^ 63 ∧ Q .non (upd H l (.lst (xs.take i.toNat ++ [y] ++ xs.drop i.toNat)))
theorem mt_insY {X : Cx} : MtR X "list.insert" rInsY := mt_insert
def insL {α : Type} (l : List α) (i : Int) (b : α) : List α := l.take i.toNat ++ [b] ++ l.drop i.toNat
section
variable {K : PySem.W.Frag} {B B' H H' : Hp} {Q : VK} {p : Addr} {y : V} {i : Int}
theorem h_insert {α : Type} [Enc α] {l : List α} {b : α} (w : Ex B H) (m : Mu K B H p (l.map enc)) (ry : Rep K B y (enc b)) (hz : l.length < 1000000 ∧ 0 ≤ i ∧ i < 2 ^ 63) (h : ∀ H', Stp [p] B H B H' → Mu K B H' p ((insL l i b).map enc) → Q .non H') : rInsY (.ref p) [.int i, y] H Q := by
  obtain ⟨hb, xs, hp, hr⟩ := id m
  refine ⟨p, xs, i, y, rfl, rfl, hp, by rw [hr.length, List.length_map]; exact Nat.lt_of_lt_of_le hz.1 (by decide), hz.2.1, hz.2.2, ?_⟩
  have rl : RepL K B (xs.take i.toNat ++ [y] ++ xs.drop i.toNat) ((insL l i b).map enc) := by
    unfold insL
    rw [List.map_append, List.map_append, List.map_take, List.map_drop]
    exact ((hr.take _).append (.cons ry .nil)).append (hr.drop _)
  obtain ⟨s, m'⟩ := Stp.mut w m rl
  exact h _ s m'
end
/-- the things with their places -/
def enumL {α : Type} (l : List α) : List (Tp2 Int α) := l.mapIdx fun i x => ⟨(i : Int), x⟩
def En (K : PySem.W.Frag) (vs : List V) (g : TG) (tb : TS) (D' : Ends) (σ : L2.St) (H : Hp) : Prop := tFor (iEnum K (fun _ H Q => Q vs H)) g tb D' σ H
section
variable {K : PySem.W.Frag} {σ : L2.St} {B H : Hp} {p : Addr} {xs : List V} {tb : TS} {D' : Ends} {g : TG} {α β S : Type} {P : β → Prop} {R : Err → Prop}
theorem h_enumE {ta : TA} (h : ta σ H fun vs H1 => En K vs g tb D' σ H1) : tFor (iEnum K ta) g tb D' σ H := h
theorem h_forEn [Enc α] {l : List α} {s0 : S} {f : Tp2 Int α → S → Res (Fl S β)} {k : S → Res β} (hP : Post ((forR (enumL l) s0 f).bind (afterR k)) P R) (hs : SqL K H p xs) (hr : RepL K B xs (l.map enc))
    (J : S → L2.St → Hp → Prop) (h0 : J s0 σ H) (hl : ∀ s σ' H', J s σ' H' → SqL K H' p xs)
    (hb : ∀ (N : L2.St → Hp → Prop) (T : Fl S β → Prop) (x : Tp2 Int α) u s σ' H', J s σ' H' → Rep K B u (enc x.b) → (∀ s' σ2 H2, J s' σ2 H2 → T (.nx s') → N σ2 H2) → (∀ r, T (.rt r) → P r) → (∀ s' σ2 H2, J s' σ2 H2 → T (.bk s') → D'.nx σ2 H2) → Post (f x s) T R →
      NewT [.int x.a, u] H' fun v H1 => g v σ' H1 fun σ2 H2 => tb { D' with nx := N, ct := N, bk := D'.nx } σ2 H2)
    (hd : ∀ s σ' H', J s σ' H' → Post (k s) P R → D'.nx σ' H') : En K [.ref p] g tb D' σ H := by
  refine ⟨p, xs, rfl, hs, for_it (n := xs.length) walk_enum (fun i σ' H' => ∃ s, J s σ' H' ∧ Post (forR ((enumL l).drop i) s f) (fun a => Post (afterR k a) P R) R) ⟨s0, h0, hP.bind⟩ (fun i σ' H' _ ⟨s, j, _⟩ => hl s σ' H' j) ?_ ?_⟩
  · rintro i v σ' H' H2 hi ⟨s, j, q⟩ ⟨T, y1, y2, rfl, hT, rfl, h1, h2⟩
    cases Option.some.inj h1
    have hll : xs.length = l.length := by rw [hr.length, List.length_map]
    have hil : i < l.length := by omega
    have hx : (enumL l)[i]? = some ⟨(i : Int), l[i]⟩ := by
      unfold enumL
      rw [List.getElem?_mapIdx, List.getElem?_eq_getElem hil]
      rfl
    obtain ⟨u, hu, ru⟩ := hr.get (i := i) (d := enc l[i]) (by rw [List.getElem?_map, List.getElem?_eq_getElem hil]; rfl)
    have h2 : xs[i]? = some y2 := h2
    rw [h2] at hu; cases hu
    exact (hb _ _ ⟨(i : Int), l[i]⟩ y2 s σ' H' j ru (fun s' σ2 H2 j2 t2 => ⟨s', j2, t2⟩) (fun r t2 => (t2 : Post (.ok r) P R).ok) (fun s' σ2 H2 j2 t2 => hd s' σ2 H2 j2 t2) (q.turn hx)).2 T hT
  · rintro σ' H' ⟨s, j, q⟩
    exact hd s σ' H' j (q.forN (by unfold enumL; rw [List.length_mapIdx, hr.length, List.length_map]; exact Nat.le_refl _))
end
end Y

set_option Elab.async false
set_option linter.all false
set_option maxRecDepth 100000
set_option maxHeartbeats 4000000
namespace Y
open PySem PySem.Spec PyProof.Rows
open L2
/-! # a try whose clauses may each have a name -/
/-- a clause: what it names, the slot of its name, its suite's reading -/
structure Cl where
  c : Value
  nm : Option Nat
  ts : Addr → Value → Option Addr → TS
def Cl.ends (k : Cl) (D : Ends) : Ends := match k.nm with
  | none => D
  | some i => ⟨fun σ H => D.nx (σ.set i none) H, D.rt, fun σ H => D.bk (σ.set i none) H, fun σ H => D.ct (σ.set i none) H⟩
def Cl.slots (k : Cl) (σ : L2.St) (a : Addr) : L2.St := match k.nm with | none => σ | some i => σ.set i (some (.ref a))
def wMix (K : PySem.W.Frag) (Wout : WX) (D : Ends) : List Cl → WX
  | [] => Wout
  | k :: r => fun cls d σ H => ∃ b, PySem.W.exmOne K cls k.c = some b ∧ (b = true → ∀ a, H a = none → k.ts a cls d (k.ends D) (k.slots σ a) H) ∧ (b = false → wMix K Wout D r cls d σ H)
abbrev SuOk (X : Cx) (b₀ : Stmt) (su : List Stmt) (ts : Addr → Value → Option Addr → TS) : Prop :=
  ∀ (a : Addr) (oe : Obj) (cls : Value) (d : Option Addr) (pn : List (Addr × Obj)), Zc cls d oe → (∃ vs, oe.data = .fields vs) → PSs (X.suite a ((a, oe) :: pn)) (b₀ :: su) (ts a cls d)
inductive Mix (X : Cx) : List ExceptHandler → List Cl → Prop
  | nil : Mix X [] []
  | plain {x : Str} {c : Value} {ts : Addr → Value → Option Addr → TS} {b₀ : Stmt} {su : List Stmt} {p q : Pos} {hs : List ExceptHandler} {ks : List Cl}
      (hc : Names X x c) (hsu : SuOk X b₀ su ts) (r : Mix X hs ks) : Mix X (.ExceptHandler (some (.Name x p)) none (b₀ :: su) q :: hs) (⟨c, none, ts⟩ :: ks)
  | named {x n : Str} {i : Nat} {c : Value} {ts : Addr → Value → Option Addr → TS} {b₀ : Stmt} {su : List Stmt} {p q : Pos} {hs : List ExceptHandler} {ks : List Cl}
      (hN : X.N.Nodup) (hi : X.N[i]? = some n) (hl : X.env.kindOf n = some .local) (hc : Names X x c) (hsu : SuOk X b₀ su ts) (r : Mix X hs ks) : Mix X (.ExceptHandler (some (.Name x p)) (some n) (b₀ :: su) q :: hs) (⟨c, some i, ts⟩ :: ks)
/-- the exception is in flight here: what was known ahead of it -/
structure Fly (X : Cx) (a : Addr) (B : Heap) (sI s1 : Shared) (pins : List (Addr × Obj)) (σ : L2.St) (H : Hp) (cls : Value) (d : Option Addr) (h : Heap) : Prop where
  J : Inv X pins σ H sI
  nb : ∀ b o, sI.heap.get? b = some o → b ∉ frs X.stack → B.get? b = some o
  up : sI.heap.UpToSlots h
  na : H a = none
  os : s1.os = sI.os
  ag : AllBare s1.gens
  fl : HandSPX.FlyingZ B (X.env :: X.outer) a (Zc cls d) h
section
variable {X : Cx} {a : Addr} {B : Heap} {sI s1 : Shared} {pins : List (Addr × Obj)} {σ : L2.St} {H : Hp} {cls : Value} {d : Option Addr} {h : Heap}
theorem Fly.inv (F : Fly X a B sI s1 pins σ H cls d h) : Inv X pins σ H { s1 with heap := h } := F.J.landed F.nb F.fl.1 F.up F.os F.ag
theorem Fly.apart (F : Fly X a B sI s1 pins σ H cls d h) (hf : X.env.frame = some X.env.locals) (hs : X.stack = X.env :: X.outer) : a ≠ X.env.locals ∧ a ∉ X.fs := by
  obtain ⟨oe, vs, he, hz, hd⟩ := F.fl.there
  have key : ∀ e ∈ X.env :: X.outer, e.frame ≠ some a := fun e me q => by
    obtain ⟨_, o, ho, hn⟩ := F.fl.2.2.1.mem (List.mem_filterMap.mpr ⟨e, me, q⟩)
    rw [he] at ho
    cases ho
    exact hn _ hd
  exact ⟨fun z => key X.env List.mem_cons_self (by rw [hf, z]), fun m => by
    obtain ⟨e, me, q⟩ := List.mem_filterMap.mp m
    exact key e (List.mem_cons_of_mem _ me) q⟩
end
section
variable {X : Cx} {body : List Stmt} {h₀ : ExceptHandler} {hds : List ExceptHandler} {ks : List Cl} {pos : Pos} {tb : WX → TS} {Wout : WX}
/-- none of the clauses is right: it goes on -/
theorem fly_on {a : Addr} {B : Heap} {sI s1 : Shared} {pins : List (Addr × Obj)} {σ : L2.St} {H : Hp} {cls : Value} {d : Option Addr} {h : Heap} {Q : Flow → Shared → Prop} (hs : X.stack = X.env :: X.outer) (hf : X.env.frame = some X.env.locals) (tk : Takes X Wout)
    (F : Fly X a B sI s1 pins σ H cls d h) (w : Wout cls d σ H) : wpAny (model X.prog X.w) X.A (handleBy (.ref a) X.env []) Q X.xe { s1 with heap := h } := by
  apply wpAny_handleBy_nil
  have fl := F.fl
  obtain ⟨_, _, _, oe, vs, T, oT, tsl, he, hz, hd, h1, hr⟩ := fl
  have up1 : wpAny (model X.prog X.w) X.A (setFlight (.ref a) X.env.frame) (fun _ z => wpAny (model X.prog X.w) X.A (throw (.ref a) : Sem Flow) Q X.xe z) X.xe { s1 with heap := h } := by
    rw [hf]
    apply HandSPX.setFlight_upZ F.fl
    intro k hk uk
    apply wpAny_throw
    exact tk _ _ ⟨a, B, sI, pins, σ, H, cls, d, rfl, F.J, F.nb, F.up.trans uk, .inr (.inr (by rw [hs]; exact hk)), F.na, F.os, F.ag, w⟩
  unfold PySem.passOn
  apply wpAny_bind
  apply wpAny_field he hd h1
  rw [if_neg (show ¬ ((Value.ref T == Value.none) = true) from by simp)]
  first
    | exact wpAny_bind (wpAny_pure (wpAny_bind up1))
    | exact wpAny_bind up1
theorem fly_mix {a : Addr} {B : Heap} {sI s1 : Shared} {pins : List (Addr × Obj)} {σ : L2.St} {H : Hp} {cls : Value} {d : Option Addr} {h : Heap} {D : Ends} (hs : X.stack = X.env :: X.outer) (hf : X.env.frame = some X.env.locals) (tk : Takes X Wout) (ok : X.Ok)
    (F : Fly X a B sI s1 pins σ H cls d h) : ∀ {hds : List ExceptHandler} {ks : List Cl}, Mix X hds ks → wMix X.K Wout D ks cls d σ H → wpAny (model X.prog X.w) X.A (handleBy (.ref a) X.env hds) (SP X pins D) X.xe { s1 with heap := h } := by
  intro hds ks M
  obtain ⟨oe, vs, he, hz, hd⟩ := F.fl.there
  obtain ⟨nL, nF⟩ := F.apart hf hs
  have S := F.inv.suite he hd F.na nL nF
  have LT : PySem.W.Looks (model X.prog X.w) h (typeOf (.ref a)) cls := fun A Q E s k q => wpAny_typeOf_ref (k _ _ he) (by rw [hz.1]; exact q)
  have named : ∀ {x : Str} {c : Value} {np : Pos}, Names X x c → ∀ {Q E : Value → Shared → Prop}, Q c { s1 with heap := h } → wpAny (model X.prog X.w) (X.A.mark (some (.ref a))) (eval (.Name x np) X.env) Q E { s1 with heap := h } := by
    intro x c np hc Q E q
    rcases hc with ⟨g, db, g2 | ⟨g2, g3, g4⟩⟩
    · exact ld_glob (X := X.suite a ((a, oe) :: (X.pn ++ pins))) S g g2 q db
    · exact ld_blt (X := X.suite a ((a, oe) :: (X.pn ++ pins))) S g g2 g3 q g4 db
  induction M with
  | nil => exact fun w => fly_on hs hf tk F w
  | @plain x c ts b₀ su p q hs' ks' hc hsu r ih =>
    rintro ⟨b, hb, yes, no⟩
    apply wpAny_handleBy_cons (codeAny_handlers_test ?_) (by intro z; cases z)
    apply named hc
    apply (PySem.W.exm_one (M := model X.prog X.w) F.inv.kIn LT hb).here
    cases b
    · exact ih (no rfl)
    · apply codeAny_handlers_suite
      apply HandSPX.lands_againZ F.fl
      intro k fk uk
      have F' : Fly X a B sI s1 pins σ H cls d k := ⟨F.J, F.nb, F.up.trans uk, F.na, F.os, F.ag, fk⟩
      obtain ⟨oe', vs', he', hz', hd'⟩ := fk.there
      have S' := F'.inv.suite he' hd' F.na nL nF
      apply wpAny_mono ((hsu a oe' cls d (X.pn ++ pins) hz' ⟨_, hd'⟩).run [] _ _ H _ S' (yes rfl a F.na)) ?_ (fun _ _ z => z.elim)
      intro f t ht
      cases f <;> obtain ⟨σ6, ht⟩ := ht
      case ret => obtain ⟨σ7, H7, S7, r7, q7⟩ := ht; exact ⟨_, _, _, S7.unsuite ok, r7, q7⟩
      all_goals (obtain ⟨H6, S6, q6⟩ := ht; exact ⟨_, _, S6.unsuite ok, q6⟩)
  | @named x n i c ts b₀ su p q hs' ks' hN hi hl hc hsu r ih =>
    rintro ⟨b, hb, yes, no⟩
    apply wpAny_handleBy_cons (codeAny_handlers_test ?_) (by intro z; cases z)
    apply named hc
    apply (PySem.W.exm_one (M := model X.prog X.w) F.inv.kIn LT hb).here
    cases b
    · exact ih (no rfl)
    · apply codeAny_handlers_suite_as
      apply HandSPX.lands_againZ F.fl
      intro k fk uk
      have F' : Fly X a B sI s1 pins σ H cls d k := ⟨F.J, F.nb, F.up.trans uk, F.na, F.os, F.ag, fk⟩
      obtain ⟨oe', vs', he', hz', hd'⟩ := fk.there
      have S' := F'.inv.suite he' hd' F.na nL nF
      have hx : Loc X.env.scope n := .inl hl
      refine store_ok (X := X.suite a ((a, oe') :: (X.pn ++ pins))) (v := .ref a) S' hN hi hx rfl (fun t2 T2 => ?_) (.inr hl)
      apply wpAny_mono ((hsu a oe' cls d (X.pn ++ pins) hz' ⟨_, hd'⟩).run [] t2 _ H _ T2 (yes rfl a F.na)) ?_ (fun _ _ z => z.elim)
      intro f t ht
      have leave : ∀ {σ6 : L2.St} {H6 : Hp} {Q : Shared → Prop}, Inv (X.suite a ((a, oe') :: (X.pn ++ pins))) [] σ6 H6 t → (∀ t7, Inv X pins (σ6.set i none) H6 t7 → Q t7) →
          wpAny (model X.prog X.w) X.A (do bindName X.env n .none; unbindBehindTheSuite X.env n q) (fun _ t7 => Q t7) X.xe t := fun S6 hq => gone_ok (S6.unsuite ok) hN hi hl hq
      cases f <;> obtain ⟨σ6, ht⟩ := ht
      case ret => obtain ⟨σ7, H7, S7, r7, q7⟩ := ht; exact leave S7 fun t7 J7 => ⟨_, _, _, J7, r7, q7⟩
      all_goals (obtain ⟨H6, S6, q6⟩ := ht; exact leave S6 fun t7 J7 => ⟨_, _, J7, q6⟩)
def tTryM (K : PySem.W.Frag) (ks : List Cl) (Wout : WX) (tb : WX → TS) : TS := fun D σ H => tb (wMix K Wout D ks) D σ H
theorem ps_tryM {K : PySem.W.Frag} (hs : X.stack = X.env :: X.outer) (hf : X.env.frame = some X.env.locals) (tk : Takes X Wout)
    (hb : ∀ (W : WX) (pn : List (Addr × Obj)) (xe : Value → Shared → Prop), Takes (X.tr pn xe) W → PassesOwn (model X.prog X.w) X.A X.env xe → PSs (X.tr pn xe) body (tb W))
    (M : Mix X (h₀ :: hds) ks) (hK : X.K = K := by rfl) : PS X (.Try body (h₀ :: hds) [] [] pos) (tTryM K ks Wout tb) := by
  subst hK
  refine ⟨fun pins s σ H D I h => ?_⟩
  have ok := I.ok
  have hfr : X.A.frames = some (X.env :: X.outer) := by rw [ok.frames, hs]
  apply wpAny_Try_except
  refine wpAny_mono ((hb (wMix X.K Wout D ks) (X.pn ++ pins) _ ?_ PassesOwn.looking).run [] s σ H D (I.toTry _) h) ?_ (fun e t he => he)
  · intro u t xx
    obtain ⟨a, B, sI, pins', σ', H', cls, d, rfl, J', nb, up, sky, na, os, ag, w⟩ := xx
    rw [show (X.tr (X.pn ++ pins) _).stack = X.env :: X.outer from hs] at sky
    refine Sky.land Zc.steady hfr hf sky fun k fk uk => ?_
    exact fly_mix hs hf tk ok (D := D) ⟨J'.ofTry ok, nb, up.trans uk, na, os, ag, fk⟩ M w
  · intro f t ht
    cases f
    case ret => obtain ⟨v, σ', H', J', r, q⟩ := ht; exact ⟨v, σ', H', J'.ofTry ok, r, q⟩
    case next => obtain ⟨σ', H', J', q⟩ := ht; exact wpAny_execs_nil ⟨σ', H', J'.ofTry ok, q⟩
    all_goals (obtain ⟨σ', H', J', q⟩ := ht; exact ⟨σ', H', J'.ofTry ok, q⟩)
end

/-! ## isinstance of the exception, several classes -/
def rIsET (K : PySem.W.Frag) (D a : Addr) : List V → Hp → VK → Prop := fun xs H Q => ∃ (tp : Addr) (cs : List V) (us : List Value) (b : Bool), xs = [.ref a, .ref tp] ∧ H tp = some (.tup cs) ∧ Paired ClsV cs us ∧ PySem.W.kitAny K (.ref D) us = some b ∧ Q (.bl b) H
theorem call_isET {X : Cx} {a D : Addr} {oe : Obj} {pn : List (Addr × Obj)} (C : ExcC X.K D) (hz : Zc (.ref D) none oe) (hf : ∃ vs, oe.data = .fields vs) : CallR (X.suite a ((a, oe) :: pn)) (.builtin "isinstance") (rIsET X.K D a) := by
  rintro pins s σ H _ us Q I r ⟨tp, cs, ws, b, rfl, hT, k, e, q⟩
  obtain ⟨u1, u2, rfl, r1, r2⟩ := r.two
  cases (show u1 = Value.ref a from r1)
  cases (show u2 = Value.ref tp from r2)
  have hget := (I.pin (a, oe) (List.mem_append.mpr (.inl List.mem_cons_self))).1
  obtain ⟨vs, hv⟩ := hf
  obtain ⟨h1, h2⟩ := hz
  obtain ⟨c0, d0, dt0, sl0⟩ := oe
  dsimp only at h1 h2 hv
  subst h1 h2 hv
  have J : PySem.W.InstAt s.heap a ⟨.ref D, none, .fields vs, sl0⟩ D none := ⟨hget, rfl, rfl, trivial⟩
  obtain ⟨_, its, rv, o, g1, g2, n, g3⟩ := (show ObjOk X.prog X.w H s.heap tp (.tup cs) from I.hok tp _ hT)
  have e3 := ClsV.all k rv
  subst e3
  obtain ⟨oc, od, dt, sl⟩ := o
  dsimp only at g2 g3
  subst g2 g3
  exact PySem.W.kia_tup (PySem.W.handS_kitx_exc C.hg C.hk C.hs C.hd C.ha C.hn C.ht C.hm) I.kIn J g1 e (fun z => nomatch z) fun tk => ⟨.bl b, H, I.kept (t' := tk) fun _ _ z => z, rfl, q⟩
def tIsET (K : PySem.W.Frag) (a : Addr) (cls : Value) (d : Option Addr) (targs : TA) : TE := fun σ H Q => ∃ Dc, cls = .ref Dc ∧ d = none ∧ ExcC K Dc ∧ tCB (rIsET K Dc a) targs σ H Q
section
variable {K : PySem.W.Frag} {σ : L2.St} {B H : Hp} {Q : VK} {D' : Ends} {Wout : WX} {k : Cl} {r : List Cl} {mg : Str → Option Value} {nm : Str}
theorem pe_isET {X : Cx} {e : Expr} {a : Addr} {cls : Value} {d : Option Addr} {targs : TA} (hK : X.K = K) (h : ∀ Dc, cls = .ref Dc → d = none → ExcC K Dc → PE X e (tCB (rIsET K Dc a) targs)) : PE X e (tIsET K a cls d targs) :=
  ⟨fun pins s σ H Q I q => by
    obtain ⟨Dc, e1, e2, ec, q⟩ := q
    exact (h Dc e1 e2 ec).run pins s σ H Q I q⟩
theorem h_isET {a C : Addr} {targs : TA} (T : ExcT K mg nm C) (h : targs σ H fun vs H1 => rIsET K C a vs H1 Q) : tIsET K a (.ref C) none targs σ H Q := ⟨C, rfl, rfl, T.ec, h⟩
theorem kitA_nil {t : Value} : PySem.W.kitAny K t [] = some false := rfl
theorem kitA_f {t c : Value} {r : List Value} {b : Bool} (h : PySem.W.kitOne K t c = some false) (hr : PySem.W.kitAny K t r = some b) : PySem.W.kitAny K t (c :: r) = some b := by
  unfold PySem.W.kitAny
  rw [h]
  exact hr
theorem kitA_t {t c : Value} {r : List Value} (h : PySem.W.kitOne K t c = some true) : PySem.W.kitAny K t (c :: r) = some true := by
  unfold PySem.W.kitAny
  rw [h]
/-- a tuple of classes that was just laid -/
theorem h_clsTup {xs : List V} (w : Ex B H) (hn : xs.length ≤ sizeLine) (h : ∀ p, Stp [] B H B (upd H p (.tup xs)) → Q (.ref p) (upd H p (.tup xs))) : NewT xs H Q := ⟨hn, fun p hp => h p (Stp.newM w hp)⟩
theorem h_isETR {a C tp : Addr} {xs : List V} {us : List Value} {b : Bool} (hp : Paired ClsV xs us) (e : PySem.W.kitAny K (.ref C) us = some b) (q : Q (.bl b) (upd H tp (.tup xs))) : rIsET K C a [.ref a, .ref tp] (upd H tp (.tup xs)) Q := ⟨tp, xs, us, b, rfl, upd_same, hp, e, q⟩
/-- the clause meets the error -/
theorem h_mixHitA {C S' : Addr} {i : Nat} {ts : Addr → Value → Option Addr → TS} (T : ExcT K mg nm S') (hs : PySem.W.subIn K (.ref C) (.ref S') = some true)
    (h : ∀ a, H a = none → ts a (.ref C) none ⟨fun σ H => D'.nx (σ.set i none) H, D'.rt, fun σ H => D'.bk (σ.set i none) H, fun σ H => D'.ct (σ.set i none) H⟩ (σ.set i (some (.ref a))) H) : wMix K Wout D' (⟨.ref S', some i, ts⟩ :: r) (.ref C) none σ H :=
  ⟨true, T.exm hs, fun _ a ha => h a ha, fun q => nomatch q⟩
theorem h_mixHitO {C S' : Addr} {ts : Addr → Value → Option Addr → TS} (T : ExcT K mg nm S') (hs : PySem.W.subIn K (.ref C) (.ref S') = some true)
    (h : ∀ a, H a = none → ts a (.ref C) none D' σ H) : wMix K Wout D' (⟨.ref S', none, ts⟩ :: r) (.ref C) none σ H :=
  ⟨true, T.exm hs, fun _ a ha => h a ha, fun q => nomatch q⟩
theorem h_mixSkip {C S' : Addr} (hc : k.c = .ref S') (T : ExcT K mg nm S') (hs : PySem.W.subIn K (.ref C) (.ref S') = some false) (h : wMix K Wout D' r (.ref C) none σ H) : wMix K Wout D' (k :: r) (.ref C) none σ H :=
  ⟨false, by rw [hc]; exact T.exm hs, (fun q => nomatch q), fun _ => h⟩
theorem h_tryM {ks : List Cl} {tb : WX → TS} (h : tb (wMix K Wout D' ks) D' σ H) : tTryM K ks Wout tb D' σ H := h
end

/-! ## a list of lists of our own -/
def Raw (B H : Hp) (p : Addr) (xs : List V) : Prop := B p = none ∧ H p = some (.lst xs)
section
variable {K : PySem.W.Frag} {B B' H H' : Hp} {W : List Addr} {p q : Addr} {xs : List V} {Q : VK} {d e : D} {v u : V}
theorem Raw.step (m : Raw B H p xs) (s : Stp W B H B' H') (h : p ∉ W) : Raw B' H' p xs := ⟨s.nw p _ m.1 m.2, s.fr p _ h m.2⟩
theorem Raw.ne (m : Raw B H p xs) (h : H q = none) : p ≠ q := ne_of_none m.2 h
theorem Raw.kp {r : Addr} (m : Raw B H q xs) (_ : Ex B B') (k : ∀ q, q ≠ r → B q = none → B' q = none) (n : q ≠ r) : Raw B' H q xs := ⟨k q n m.1, m.2⟩
theorem Raw.sq (m : Raw B H p xs) : SqL K H p xs := SqL.of m.2
theorem h_newRaw (w : Ex B H) (hn : xs.length ≤ sizeLine) (h : ∀ p H', H p = none → Stp [] B H B H' → Raw B H' p xs → Q (.ref p) H') : NewL xs H Q := ⟨hn, fun p hp => h p _ hp (Stp.newM w hp) ⟨w.none hp, upd_same⟩⟩
theorem Cmp.pair (s : SqL K H p [v, u]) (h : Cmp K H v d) (h' : Cmp K H u e) : Cmp K H (.ref p) (.lst [d, e]) := fun f => by
  have f' : (flatD d && (flatD e && true)) = true := f
  simp only [Bool.and_true, Bool.and_eq_true] at f'
  exact .lst s (.cons (h f'.1) (.cons (h' f'.2) .nil))
end
end Y

/-! # a local name that holds a def -/
namespace Y
open PySem PySem.Spec PyProof.Rows
open L2
section
variable {X : Cx} {CX : CXT} {k : Nat} {f : Addr} {fd : FuncData} {ps : List Str} {sp : Sp} {dvs : List V} {ds : List Value} {E : L2.St → XK} {x : Str} {p pos : Pos} {e : Expr} {es : List Expr} {t tl : TA}
def tCallLS (i : Nat) (f : Addr) (sp : Sp) (dvs : List V) (E : L2.St → XK) (t : TA) : TE := fun σ H Q => σ[i]? = some (some (.ref f)) ∧ t σ H fun vs H1 => sp (vs ++ dvs) H1 Q (E σ)
theorem atOf {E : XK} (h : Passes CX X E) : ∀ σ, PassesAt CX X σ ((fun _ : L2.St => E) σ) := fun σ pins H s e s' I c => h pins σ H s e s' I c
theorem pe_callLS (i : Nat) (F : FnOk X.prog X.w X.K X.mg X.base CX k f fd ps sp) (hr : Room k X.A) (hk : PySem.W.keepIn X.K (.ref f) = true) (hb : L2.Binds X.K fd ps ds) (hd : Vals dvs ds) (hx : ∀ σ, PassesAt CX X σ (E σ)) (ha : PA X (e :: es) t)
    (hN : X.N[i]? = some x := by rfl) (hv : Vis X.env.scope x := by first | exact Or.inl rfl | exact Or.inr (Or.inl rfl) | exact Or.inr (Or.inr rfl))
    (hdb : (x == ("__debug__" : Str)) = false := by decide) (hcd : (x == ("__classdict__" : Str)) = false := by decide)
    (he : starEach (e :: es) X.env = (false, eval e X.env) :: starEach es X.env := by rfl) (hpl : (backTo pos (starEach es X.env)).any (·.1) = false := by rfl) : PE X (.Call (.Name x p) (e :: es) [] pos) (tCallLS i f sp dvs E t) := by
  refine ⟨fun pins s σ H Q I h => ?_⟩
  obtain ⟨hs, ht⟩ := h
  refine wpAny_Call_Name_kw (thn ((pe_var (pos := p) hN hv hdb hcd).run pins s σ H (fun v H1 => v = .ref f ∧ H1 = H) I ⟨.ref f, hs, rfl, rfl⟩) fun u s1 ⟨v, H1, I1, r1, q1⟩ => ?_)
  obtain ⟨rfl, rfl⟩ := q1
  cases r1
  refine PySem.W.callWith_K (h₀ := X.base) I.ok.mod.kin hk (thn (ha.run pos pins s1 σ _ _ I1 ht) fun us s2 ⟨vs, H2, I2, r, q⟩ => ⟨I2.kIn, ?_⟩) he hpl
  exact run_fnSD F hr hb hd (hx σ) I2 r q
theorem h_callLS {i : Nat} {σ : L2.St} {H : Hp} {Q : VK} (hs : σ[i]? = some (some (.ref f))) (h : tl σ H fun vs H1 => sp (vs ++ dvs) H1 Q (E σ)) : tCallLS i f sp dvs E tl σ H Q := ⟨hs, h⟩
end
end Y

set_option Elab.async false
set_option linter.all false
set_option maxRecDepth 100000
set_option maxHeartbeats 4000000
namespace Y
open PySem PySem.Spec PyProof.Rows
open L2
/-! # instances of the text's classes that stay as they are -/
/-- a class of the text, a name of the module -/
structure KI (K : PySem.W.Frag) (mg : Str → Option Value) (nm : Str) (C : Addr) : Prop extends KC K nm C where
  g : mg nm = some (.ref C)
  ty : PySem.W.typeIn K (.ref C) = some (.type "type")
  is : PySem.W.isClsIn K C = true
  self : PySem.W.subIn K (.ref C) (.ref C) = some true
theorem bt_of {K : PySem.W.Frag} {C : Addr} (a : PySem.W.subIn K (.ref C) (.type "bool") = some false) (b : PySem.W.subIn K (.ref C) (.type "int") = some false) (c : PySem.W.subIn K (.ref C) (.type "str") = some false)
    (d : PySem.W.subIn K (.ref C) (.type "list") = some false) (e : PySem.W.subIn K (.ref C) (.type "tuple") = some false) (f : PySem.W.subIn K (.ref C) (.type "dict") = some false) :
    ∀ t ∈ ["bool", "int", "str", "list", "tuple", "dict"], PySem.W.subIn K (.ref C) (.type t) = some false := by
  intro t ht
  simp only [List.mem_cons, List.not_mem_nil, or_false] at ht
  rcases ht with rfl | rfl | rfl | rfl | rfl | rfl
  · exact a
  · exact b
  · exact c
  · exact d
  · exact e
  · exact f
section
variable {K : PySem.W.Frag} {mg : Str → Option Value} {nm nm' f m : Str} {C C' C2 p dx : Addr} {B H B' H' : Hp} {fs : List (Str × V)} {ds : List (Str × D)} {d : D} {v : V} {Q : VK} {b : Bool} {σ : L2.St} {ta : TE} {tab : List (Str × Bool)}
theorem KC.uniq (k : KC K nm C) (k' : KC K nm C') : C = C' := by
  have := k.a.symm.trans k'.a
  cases this
  rfl
theorem KI.kit (T : KI K mg nm C) (h : PySem.W.subIn K (.ref C2) (.ref C) = some b) : PySem.W.kitOne K (.ref C2) (.ref C) = some b := by
  unfold PySem.W.kitOne
  by_cases e : (Value.ref C2 == Value.ref C) = true
  · rw [if_pos e]
    have e2 : C2 = C := Value.ref.inj (beq_iff_eq.mp e)
    subst e2
    exact T.self.symm.trans h
  · rw [if_neg e]
    have h2 : (PySem.W.clsIn K C).isSome = true := T.is
    show (if ((PySem.W.clsIn K C).isSome && PySem.W.typeIn K (.ref C) == some (.type "type")) = true then PySem.W.subIn K (.ref C2) (.ref C) else none) = some b
    rw [if_pos (by rw [h2, T.ty] <;> rfl)]
    exact h
theorem sub_bt (C : Addr) : ∀ s ∈ ["NoneType", "bool", "int", "str", "list", "tuple", "dict"], PySem.W.subIn K (.type s) (.ref C) = some false := by
  intro s hs
  simp only [List.mem_cons, List.not_mem_nil, or_false] at hs
  rcases hs with rfl | rfl | rfl | rfl | rfl | rfl | rfl <;> rfl
theorem KI.kitB (T : KI K mg nm C) {s : String} (hs : s ∈ ["NoneType", "bool", "int", "str", "list", "tuple", "dict"]) : PySem.W.kitOne K (.type s) (.ref C) = some false := by
  unfold PySem.W.kitOne
  rw [if_neg (by simp)]
  have h2 : (PySem.W.clsIn K C).isSome = true := T.is
  show (if ((PySem.W.clsIn K C).isSome && PySem.W.typeIn K (.ref C) == some (.type "type")) = true then PySem.W.subIn K (.type s) (.ref C) else none) = some false
  rw [if_pos (by rw [h2, T.ty] <;> rfl)]
  exact sub_bt C s hs
/-- isinstance(x, an own class): the classes that are known, and whether each is under it -/
def isCR (tab : List (Str × Bool)) (d : D) : Res Bool := match d with
  | .obj nm _ => (match tab.lookup nm with | some b => .ok b | none => .stuck)
  | _ => .ok false
theorem Post.isC {β : Type} {k : Bool → Res β} {P : β → Prop} {R : Err → Prop} (h : Post ((isCR tab d).bind k) P R) : ∃ b, isCR tab d = .ok b ∧ Post (k b) P R := by
  cases e : isCR tab d with
  | ok b => rw [e] at h; exact ⟨b, rfl, h⟩
  | err x =>
    cases d with
    | obj nm ds =>
      have e' : (match tab.lookup nm with | Option.some b => Res.ok b | Option.none => .stuck) = Res.err x := e
      cases q : tab.lookup nm <;> rw [q] at e' <;> exact nomatch e'
    | _ => exact nomatch e
  | stuck => rw [e] at h; exact h.elim
def TabOk (K : PySem.W.Frag) (C : Addr) : List (Str × Bool) → Prop
  | [] => True
  | (nm, b) :: r => (∃ C2, KC K nm C2 ∧ PySem.W.subIn K (.ref C2) (.ref C) = some b) ∧ TabOk K C r
theorem TabOk.get : ∀ {tab : List (Str × Bool)}, TabOk K C tab → tab.lookup nm = some b → ∃ C2, KC K nm C2 ∧ PySem.W.subIn K (.ref C2) (.ref C) = some b
  | [], _, e => nomatch e
  | (x, y) :: r, h, e => by
    have e' : (match nm == x with | true => some y | false => r.lookup nm) = some b := e
    by_cases q : (nm == x) = true
    · rw [q] at e'
      cases e'
      rw [beq_iff_eq.mp q]
      exact h.1
    · rw [Bool.eq_false_iff.mpr q] at e'
      exact TabOk.get h.2 e'
theorem h_isK (w : Ex B H) (r : Rep K B v d) (T : KI K mg nm C) (tb : TabOk K C tab) (e : isCR tab d = .ok b) (q : Q (.bl b) H) : rIsi K [v, .ref C] H Q := by
  by_cases hd : isObjD d = true
  · cases r with
    | @obj p C' dx nm' fs ds h k r =>
      have e' : (match tab.lookup nm' with | some b => Res.ok b | none => .stuck) = Res.ok b := e
      cases l : tab.lookup nm' with
      | none => rw [l] at e'; exact nomatch e'
      | some y =>
        rw [l] at e'
        cases e'
        obtain ⟨C2, k2, hs⟩ := tb.get l
        rw [k2.uniq k] at hs
        exact ⟨_, .ref C, .ref C', .ref C, b, rfl, .own C, k.tyx (w _ _ h), T.kit hs, q⟩
    | _ => exact nomatch hd
  · have hd := Bool.eq_false_iff.mpr hd
    have eb : b = false := by
      cases d with
      | obj nm ds => exact nomatch hd
      | _ => cases e; rfl
    subst eb
    exact ⟨v, .ref C, _, .ref C, false, rfl, .own C, r.ty w hd, T.kitB (tyD_in d hd), q⟩
theorem RepF.get : ∀ {fs : List (Str × V)} {ds : List (Str × D)}, RepF K B fs ds → ds.lookup f = some d → ∃ v, fs.lookup f = some v ∧ Rep K B v d
  | _, _, .nil, e => nomatch e
  | _, _, @RepF.cons _ _ k v d' vs ds h t, e => by
    have e' : (match f == k with | true => some d' | false => ds.lookup f) = some d := e
    show ∃ u, (match f == k with | true => some v | false => vs.lookup f) = some u ∧ _
    cases q : f == k with
    | true =>
      rw [q] at e'
      cases e'
      exact ⟨v, rfl, h⟩
    | false =>
      rw [q] at e'
      exact RepF.get t e'
theorem RepF.none : ∀ {fs : List (Str × V)} {ds : List (Str × D)}, RepF K B fs ds → ds.lookup f = Option.none → fs.lookup f = Option.none
  | _, _, .nil, _ => rfl
  | _, _, @RepF.cons _ _ k v d' vs ds h t, e => by
    have e' : (match f == k with | true => some d' | false => ds.lookup f) = Option.none := e
    show (match f == k with | true => some v | false => vs.lookup f) = Option.none
    cases q : f == k with
    | true => rw [q] at e'; exact nomatch e'
    | false =>
      rw [q] at e'
      exact RepF.none t e'
theorem Rep.ins (w : Ex B H) (r : Rep K B v (.obj nm ds)) (T : KC K nm C) : ∃ p dx fs, v = .ref p ∧ H p = some (.ins C dx fs) ∧ RepF K B fs ds := by
  cases r with
  | @obj p C' dx _ fs _ h k r =>
    have e := T.uniq k
    subst e
    exact ⟨p, dx, fs, rfl, w _ _ h, r⟩
/-! ### a field -/
def Fld (K : PySem.W.Frag) (f : Str) (x : V) (H : Hp) (Q : VK) : Prop := ∃ a C dx fs v, x = .ref a ∧ H a = some (.ins C dx fs) ∧ Cls K C ∧ NoAttr K C f ∧ fs.lookup f = some v ∧ Q v H
theorem h_fldE (h : ta σ H fun x H1 => Fld K f x H1 Q) : tFld K ta f σ H Q := h
theorem h_fld (w : Ex B H) (r : Rep K B v (.obj nm ds)) (T : KC K nm C) (n : NoAttr K C f) (e : ds.lookup f = some d) (h : ∀ u, Rep K B u d → Q u H) : Fld K f v H Q := by
  obtain ⟨p, dx, fs, rfl, hp, rf⟩ := r.ins w T
  obtain ⟨u, hu, ru⟩ := rf.get e
  exact ⟨p, C, dx, fs, u, rfl, hp, T.c, n, hu, h u ru⟩
/-! ### C(..) -/
/-- an __init__ that lays these fields, in this order -/
def LaysOk (K : PySem.W.Frag) (C : Addr) : List Str → Prop
  | [] => True
  | f :: r => NoAttr K C f ∧ LaysOk K C r
def spInit (K : PySem.W.Frag) (ns : List Str) : Sp := fun vs H Q _ => ∃ (C p dx : Addr) (us : List V), vs = .ref p :: us ∧ us.length = ns.length ∧ H p = some (.ins C dx []) ∧ Cls K C ∧ LaysOk K C ns ∧ Q .non (upd H p (.ins C dx (ns.zip us)))
theorem h_made (w : Ex B H) (hp : H p = none) (hx : H dx = none) (ne : dx ≠ p) (T : KC K nm C) (r : RepF K B fs ds) (h : ∀ B' H', Stp [] B H B' H' → Rep K B' (.ref p) (.obj nm ds) → Q (.ref p) H') : Q (.ref p) (upd (upd (upd H dx (.own p)) p (.ins C dx [])) p (.ins C dx fs)) := by
  rw [upd_upd]
  have s1 : Stp [] B H (upd B dx (.own p)) (upd H dx (.own p)) := Stp.new w hx
  have hp' : (upd H dx (.own p)) p = none := by rw [upd_ne ne.symm]; exact hp
  have s2 : Stp [] (upd B dx (.own p)) (upd H dx (.own p)) (upd (upd B dx (.own p)) p (.ins C dx fs)) (upd (upd H dx (.own p)) p (.ins C dx fs)) := Stp.new s1.ok hp'
  exact h _ _ (s1.trans s2) (.obj upd_same T (r.mono (s1.trans s2).ex))
theorem h_make {ns : List Str} {E : XK} {us : List V} (hl : us.length = ns.length) (w : Ex B H) (T : KC K nm C) (lo : LaysOk K C ns) (r : RepF K B (ns.zip us) ds) (h : ∀ p B' H', Stp [] B H B' H' → Rep K B' (.ref p) (.obj nm ds) → Q (.ref p) H') :
    ∀ x dx, H x = none → H dx = none → dx ≠ x → spInit K ns (.ref x :: us) (upd (upd H dx (.own x)) x (.ins C dx [])) (fun v H2 => v = .non ∧ Q (.ref x) H2) E := fun x dx hx hdx ne =>
  ⟨C, x, dx, us, rfl, hl, upd_same, T.c, lo, rfl, h_made w hx hdx ne T r fun B' H' s rr => h x B' H' s rr⟩
end
/-! ### o.m(..) of one of several classes -/
structure MAlt (P : Program) (wo : World) (K : PySem.W.Frag) (mg : Str → Option Value) (base : Heap) (CX : CXT) (k : Nat) (m : Str) (C : Addr) (sp : Sp) : Prop where
  ex : ∃ (f : Addr) (fd : FuncData) (ps : List Str), Cls K C ∧ Meth K C m f ∧ FnOk P wo K mg base CX k f fd ps sp ∧ L2.Binds K fd ps []
def tMethP (A : Addr → Sp → Prop) (m : Str) (E : L2.St → XK) (ta : TE) (t : TA) : TE := fun σ H Q => ta σ H fun x H1 => ∃ a C dx fs sp, x = .ref a ∧ H1 a = some (.ins C dx fs) ∧ A C sp ∧ fs.lookup m = none ∧ t σ H1 fun vs H2 => sp (x :: vs) H2 Q (E σ)
section
variable {X : Cx} {CX : CXT} {k : Nat} {E : L2.St → XK} {m : Str} {pos apos : Pos} {e o : Expr} {es : List Expr} {ta : TE} {t : TA} {A : Addr → Sp → Prop}
theorem pe_methP {pl : Sem Bool} (he : PE X o ta) (hA : ∀ C sp, A C sp → MAlt X.prog X.w X.K X.mg X.base CX k m C sp) (hr : Room k X.A) (hx : ∀ σ, PassesAt CX X σ (E σ)) (ha : PA X (e :: es) t)
    (hst : starEach (e :: es) X.env = (false, eval e X.env) :: starEach es X.env := by rfl) (hpl : (backTo pos (starEach es X.env)).any (·.1) = false := by rfl)
    (ht : eval (.Call (.Attribute o m apos) (e :: es) [] pos) X.env = (do
      let ov ← eval o X.env
      standAt apos.atName
      let (f, first) ← holding [ov] (getMethod ov m pl)
      callWith pos f first (backTo pos (starEach (e :: es) X.env)) (backToKw pos (keywordEach [] X.env))) := by rfl) :
    PE X (.Call (.Attribute o m apos) (e :: es) [] pos) (tMethP A m E ta t) := by
  refine ⟨fun pins s σ H Q I h => ?_⟩
  refine PySem.W.methodCall_KW (pl := pl) (thn (he.run pins s σ H _ I h) fun u s1 ⟨x, H1, I1, rx, a, C, dx, fs, sp, ex, ea, hAC, l, q⟩ => ?_) ht
  subst ex
  obtain rfl : u = Value.ref a := rx
  obtain ⟨f, fd, ps, c, hm, F, hb⟩ := (hA C sp hAC).ex
  refine getmeth_ok I1 ea c hm l ?_
  refine PySem.W.callWith_K (first := [.ref a]) (h₀ := X.base) I.ok.mod.kin hm.kp (thn (ha.run pos pins s1 σ H1 _ I1 q) fun us s2 ⟨vs, H2, I2, r, q2⟩ => ⟨I2.kIn, ?_⟩) hst hpl
  exact run_fnSD (us := .ref a :: us) (vs := .ref a :: vs) (dvs := []) (ds := []) F hr hb .nil (hx σ) I2 (.cons rfl r) (by rw [List.append_nil]; exact q2)
theorem pe_methP0 {pl : Sem Bool} (he : PE X o ta) (hA : ∀ C sp, A C sp → MAlt X.prog X.w X.K X.mg X.base CX k m C sp) (hr : Room k X.A) (hx : ∀ σ, PassesAt CX X σ (E σ))
    (ht : eval (.Call (.Attribute o m apos) [] [] pos) X.env = (do
      let ov ← eval o X.env
      standAt apos.atName
      let (f, first) ← holding [ov] (getMethod ov m pl)
      callWith pos f first (backTo pos (starEach [] X.env)) (backToKw pos (keywordEach [] X.env))) := by rfl) :
    PE X (.Call (.Attribute o m apos) [] [] pos) (tMethP A m E ta tNil) := by
  refine ⟨fun pins s σ H Q I h => ?_⟩
  refine PySem.W.methodCall_KW (pl := pl) (thn (he.run pins s σ H _ I h) fun u s1 ⟨x, H1, I1, rx, a, C, dx, fs, sp, ex, ea, hAC, l, q⟩ => ?_) ht
  subst ex
  obtain rfl : u = Value.ref a := rx
  obtain ⟨f, fd, ps, c, hm, F, hb⟩ := (hA C sp hAC).ex
  refine getmeth_ok I1 ea c hm l ?_
  exact PySem.W.callWith_K0 (first := [.ref a]) I1.kIn hm.kp (run_fnSD (us := [.ref a]) (vs := [.ref a]) (dvs := []) (ds := []) F hr hb .nil (hx σ) I1 (.cons rfl .nil) (by rw [List.append_nil]; exact q))
end
section
variable {K : PySem.W.Frag} {σ : L2.St} {H : Hp} {Q : VK} {A : Addr → Sp → Prop} {m : Str} {E : L2.St → XK} {ta : TE} {t : TA} {C : Addr} {sp : Sp} {dvs : List V} {E0 : XK}
theorem h_methE (h : ta σ H fun x H1 => ∃ a C dx fs sp, x = .ref a ∧ H1 a = some (.ins C dx fs) ∧ A C sp ∧ fs.lookup m = none ∧ t σ H1 fun vs H2 => sp (x :: vs) H2 Q (E σ)) : tMethP A m E ta t σ H Q := h
theorem h_makeE (h : t σ H fun vs H1 => ∀ x dx, H1 x = none → H1 dx = none → dx ≠ x → sp (.ref x :: (vs ++ dvs)) (upd (upd H1 dx (.own x)) x (.ins C dx [])) (fun v H2 => v = .non ∧ Q (.ref x) H2) E0) : tMake C sp dvs E0 t σ H Q := h
theorem lk0 {α : Type} {f : Str} {d : α} {r : List (Str × α)} : List.lookup f ((f, d) :: r) = some d := by
  show (match f == f with | true => some d | false => r.lookup f) = some d
  rw [beq_self_eq_true]
theorem lkS {α : Type} {f g : Str} {d e : α} {r : List (Str × α)} (h : (f == g) = false) (t : List.lookup f r = some d) : List.lookup f ((g, e) :: r) = some d := by
  show (match f == g with | true => some e | false => r.lookup f) = some d
  rw [h]
  exact t
theorem lkN {α : Type} {f g : Str} {e : α} {r : List (Str × α)} (h : (f == g) = false) (t : List.lookup f r = none) : List.lookup f ((g, e) :: r) = none := by
  show (match f == g with | true => some e | false => r.lookup f) = none
  rw [h]
  exact t
theorem lkE {α : Type} {f : Str} : List.lookup f ([] : List (Str × α)) = none := rfl
theorem putS {f g : Str} {v u : V} {r q : List (Str × V)} (h : ¬ g = f) (e : putF f v r = q) : putF f v ((g, u) :: r) = (g, u) :: q := by
  show (if g = f then (g, v) :: r else (g, u) :: putF f v r) = _
  rw [if_neg h, e]
theorem putE {f : Str} {v : V} : putF f v [] = [(f, v)] := rfl
end
/-! ### C(.., k = v) -/
def tMakeB (C : Addr) (sp : Sp) (gV : List V → List V → List V) (E : XK) (t tk : TA) : TE := fun σ H Q => t σ H fun vs H1 => tk σ H1 fun zs H2 =>
  ∀ x dx, H2 x = none → H2 dx = none → dx ≠ x → sp (gV (.ref x :: vs) zs) (upd (upd H2 dx (.own x)) x (.ins C dx [])) (fun v H3 => v = .non ∧ Q (.ref x) H3) E
section
variable {X : Cx} {CX : CXT} {k : Nat} {f C : Addr} {fd : FuncData} {ps ks : List Str} {sp : Sp} {E : XK} {x : Str} {p pos : Pos} {e : Expr} {es : List Expr} {kws : List Keyword} {t tk : TA} {g : List Value → List Value → List Value} {gV : List V → List V → List V}
theorem run_makeB {pins : List (Addr × Obj)} {σ : L2.St} {H : Hp} {s : Shared} {Q : VK} {us ws : List Value} {vs zs : List V} (M : Mk X.K C f) (F : FnOk X.prog X.w X.K X.mg X.base CX k f fd ps sp) (hr : Room (k + 1) X.A) (hb : KBinds X.K fd ps ks g gV)
    (hx : Passes CX X E) (I : Inv X pins σ H s) (r : Vals vs us) (rz : Vals zs ws)
    (h : ∀ x dx, H x = none → H dx = none → dx ≠ x → sp (gV (.ref x :: vs) zs) (upd (upd H dx (.own x)) x (.ins C dx [])) (fun v H2 => v = .non ∧ Q (.ref x) H2) E) :
    wpAny (model X.prog X.w) X.A (call (.ref C) us (ks.zip ws)) (EP X pins σ Q) X.xe s := by
  have hq := h (s.heap.objs.size + 1) s.heap.objs.size (I.hok.fresh (Nat.le_succ _)) (I.hok.fresh (Nat.le_refl _)) (Nat.ne_of_lt (Nat.lt_succ_self _))
  have I2 := Inv.made (C := C) I
  have r1 : Vals (V.ref (s.heap.objs.size + 1) :: vs) (Value.ref (s.heap.objs.size + 1) :: us) := .cons rfl r
  have r2 := hb.rel r1 rz
  have hl : (g (Value.ref (s.heap.objs.size + 1) :: us) ws).length = ps.length := by rw [← r2.length]; exact F.len _ _ _ _ hq
  refine wpAny_call (make_map (f := f) I.kIn M.makes M.init (beq_iff_eq.mp M.fn) (codeAny_mono (F.run _ X.stack _ _ ⟨Value.ref (s.heap.objs.size + 1) :: us, ks.zip ws⟩ (g (Value.ref (s.heap.objs.size + 1) :: us) ws) _ _ E (hr.make C us (ks.zip ws))
    (I2.env0.make C us (ks.zip ws)) (hb.to _ (Value.ref (s.heap.objs.size + 1) :: us) ws I2.kIn hl) r2 hq) fun r s' hq' => ?_))
  cases r with
  | error e => exact hx pins σ _ _ e s' I2 hq'
  | ok fl =>
    cases fl with
    | ret u =>
      obtain ⟨v, H', I3, rv, ev, q3⟩ := I2.after hq'
      subst ev
      exact ⟨rv, ⟨V.ref (s.heap.objs.size + 1), H', I3, rfl, q3⟩⟩
    | next => exact False.elim hq'
    | brk => exact False.elim hq'
    | cont => exact False.elim hq'
theorem pe_makeB (M : Mk X.K C f) (F : FnOk X.prog X.w X.K X.mg X.base CX k f fd ps sp) (hr : Room (k + 1) X.A) (hg : Gl X x) (hm : X.mg x = some (.ref C)) (hb : KBinds X.K fd ps ks g gV) (hx : Passes CX X E)
    (ha : PA X (e :: es) t) (hkw : PK X kws tk) (hall : (backToKw pos (keywordEach kws X.env)).all (·.1.isSome) = true := by rfl) (hks : (backToKw pos (keywordEach kws X.env)).filterMap (·.1) = ks := by rfl)
    (hdb : (x == ("__debug__" : Str)) = false := by decide) (he : starEach (e :: es) X.env = (false, eval e X.env) :: starEach es X.env := by rfl)
    (hpl : ((backTo pos (starEach (e :: es) X.env)).any (·.1) || (backToKw pos (keywordEach kws X.env)).any (·.1.isNone)) = false := by rfl) :
    PE X (.Call (.Name x p) (e :: es) kws pos) (tMakeB C sp gV E t tk) := by
  refine ⟨fun pins s σ H Q I h => ?_⟩
  refine wpAny_Call_Name_kw (ld_glob I hg hm ?_ hdb)
  refine PySem.W.callWith_KW (h₀ := X.base) I.ok.mod.kin M.kp hall (thn (ha.run pos pins s σ H _ I h) fun us s1 ⟨vs, H1, I1, r, q⟩ => ?_) hpl he
  refine thn (hkw.run pos pins s1 σ H1 _ I1 q) fun ws s2 ⟨zs, H2, I2, rz, q2⟩ => ⟨I2.kIn, ?_⟩
  rw [hks]
  exact run_makeB M F hr hb hx I2 r rz q2
theorem pe_makeB0 (M : Mk X.K C f) (F : FnOk X.prog X.w X.K X.mg X.base CX k f fd ps sp) (hr : Room (k + 1) X.A) (hg : Gl X x) (hm : X.mg x = some (.ref C)) (hb : KBinds X.K fd ps ks g gV) (hx : Passes CX X E) (hkw : PK X kws tk)
    (hall : (backToKw pos (keywordEach kws X.env)).all (·.1.isSome) = true := by rfl) (hks : (backToKw pos (keywordEach kws X.env)).filterMap (·.1) = ks := by rfl) (hdb : (x == ("__debug__" : Str)) = false := by decide)
    (hpl : ((backTo pos (starEach [] X.env)).any (·.1) || (backToKw pos (keywordEach kws X.env)).any (·.1.isNone)) = false := by rfl) :
    PE X (.Call (.Name x p) [] kws pos) (tMakeB C sp gV E tNil tk) := by
  refine ⟨fun pins s σ H Q I h => ?_⟩
  refine wpAny_Call_Name_kw (ld_glob I hg hm ?_ hdb)
  refine PySem.W.callWith_KW0 (h₀ := X.base) I.ok.mod.kin M.kp hall ?_ hpl
  refine thn (hkw.run pos pins s σ H _ I h) fun ws s2 ⟨zs, H2, I2, rz, q2⟩ => ⟨I2.kIn, ?_⟩
  rw [hks]
  exact run_makeB (us := []) (vs := []) M F hr hb hx I2 .nil rz q2
theorem h_makeBE {σ : L2.St} {H : Hp} {Q : VK} (h : t σ H fun vs H1 => tk σ H1 fun zs H2 => ∀ x dx, H2 x = none → H2 dx = none → dx ≠ x → sp (gV (.ref x :: vs) zs) (upd (upd H2 dx (.own x)) x (.ins C dx [])) (fun v H3 => v = .non ∧ Q (.ref x) H3) E) : tMakeB C sp gV E t tk σ H Q := h
end
section
variable {K : PySem.W.Frag} {B H : Hp} {σ : L2.St} {Q : VK} {tk tv : TE} {v : V} {d : D} {x : Str}
theorem h_disp1S (hk : ∀ (H' : Hp) (Q : VK), Q (.str x) H' → tk σ H' Q) (hv : ∀ (H' : Hp) (Q : VK), Q v H' → tv σ H' Q) (w : Ex B H) (rv : Rep K B v d)
    (h : ∀ p B' H', Stp [] B H B' H' → Rep K B' (.ref p) (.dic [(.inr x, d)]) → Q (.ref p) H') : tDisp [(tk, tv)] σ H Q := fun p hp => by
  show tk σ (upd H p (.dK [])) _
  refine hk _ _ (hv _ _ ⟨upd_same, [(.inr x, v)], rfl, (by show 1 ≤ 15; decide), ?_⟩)
  rw [L2.upd_upd]
  have hb := w.none hp
  exact h p _ _ (Stp.new w hp) (.dic upd_same (.cons (rv.mono (Ex.new hb)) .nil))
end
/-! ### C.m(..), a def of the class C -/
def tClsF (C : Addr) (sp : Sp) (dvs : List V) (E : XK) (ta : TE) (t : TA) : TE := fun σ H Q => ta σ H fun x H1 => x = .ref C ∧ t σ H1 fun vs H2 => sp (vs ++ dvs) H2 Q E
section
variable {X : Cx} {CX : CXT} {k : Nat} {E : XK} {m : Str} {pos apos : Pos} {e o : Expr} {es : List Expr} {ta : TE} {t : TA} {C g : Addr} {mc : Value} {fd : FuncData} {ps : List Str} {sp : Sp} {dvs : List V} {ds : List Value}
theorem pe_clsf {pl : Sem Bool} (he : PE X o ta) (r : ClX.CRead X.K C mc) (c : ClX.CVal X.K C mc m (.ref g) (.ref g)) (F : FnOk X.prog X.w X.K X.mg X.base CX k g fd ps sp) (hk : PySem.W.keepIn X.K (.ref g) = true) (hr : Room k X.A)
    (hb : L2.Binds X.K fd ps ds) (hd : Vals dvs ds) (hx : Passes CX X E) (ha : PA X (e :: es) t)
    (hst : starEach (e :: es) X.env = (false, eval e X.env) :: starEach es X.env := by rfl) (hpl : (backTo pos (starEach es X.env)).any (·.1) = false := by rfl)
    (ht : eval (.Call (.Attribute o m apos) (e :: es) [] pos) X.env = (do
      let ov ← eval o X.env
      standAt apos.atName
      let (f, first) ← holding [ov] (getMethod ov m pl)
      callWith pos f first (backTo pos (starEach (e :: es) X.env)) (backToKw pos (keywordEach [] X.env))) := by rfl) :
    PE X (.Call (.Attribute o m apos) (e :: es) [] pos) (tClsF C sp dvs E ta t) := by
  refine ⟨fun pins s σ H Q I h => ?_⟩
  refine PySem.W.methodCall_KW (pl := pl) (thn (he.run pins s σ H _ I h) fun u s1 ⟨x, H1, I1, rx, ex, q⟩ => ?_) ht
  subst ex
  obtain rfl : u = Value.ref C := rx
  refine PySem.W.method_cls I1.kIn r.ga (ClX.getcval_ok I1 r c fun s2 I2 => ?_)
  refine PySem.W.callWith_K (first := []) (h₀ := X.base) I2.ok.mod.kin hk (thn (ha.run pos pins s2 σ H1 _ I2 q) fun us s3 ⟨vs, H2, I3, rv, q2⟩ => ⟨I3.kIn, ?_⟩) hst hpl
  exact run_fn F hr hb hd hx I3 rv q2
end
/-! # min of two -/
def minI (i j : Int) : Int := if j < i then j else i
def rMinY : List V → Hp → VK → Prop := fun xs H Q => ∃ i j, xs = [.int i, .int j] ∧ Q (.int (minI i j)) H
theorem cr_minY {X : Cx} (hc : X.calm = true) : CallR X (.builtin "min") rMinY := call_min2 hc
theorem h_min {i j : Int} {H : Hp} {Q : VK} (h : Q (.int (minI i j)) H) : rMinY [.int i, .int j] H Q := ⟨i, j, rfl, h⟩
/-! # a comprehension over a tuple -/
section
variable {K : PySem.W.Frag} {B H : Hp} {σ : L2.St} {Q : VK} {p : Addr} {xs : List V} {g : TG} {tt : TT} {te : TE} {α β S R' : Type} {P : β → Prop} {R : Err → Prop}
def LcU (K : PySem.W.Frag) (v : V) (g : TG) (tt : TT) (te : TE) (vs : List Nat) (σ : L2.St) (H : Hp) (Q : VK) : Prop := tLc (iTup K (tC v)) g tt te vs σ H Q
theorem h_lcUE {vs : List Nat} {tl : TE} (h : tl σ H fun x H1 => LcU K x g tt te vs σ H1 Q) : tLc (iTup K tl) g tt te vs σ H Q := h
theorem h_lcU [Enc α] {l : List α} {s0 : S} {f : α → S → Res (Option R' × S)} {k : List R' × S → Res β} {vs : List Nat} (hP : Post ((compR l s0 f).bind k) P R) (hs : SqT K H p xs) (hr : RepL K B xs (l.map enc))
    (J : Addr → List R' → S → Hp → Prop) (h0 : ∀ Dl, H Dl = none → J Dl [] s0 (upd H Dl (.lst []))) (hl : ∀ Dl acc s H', J Dl acc s H' → SqT K H' p xs)
    (hb : ∀ (Dl : Addr) (N : Hp → Prop) (T : Option R' × S → Prop) (x : α) v acc s H', J Dl acc s H' → Rep K B v (enc x) → acc.length < sizeLine → (∀ b s' H2, J Dl (acc ++ [b]) s' H2 → T (some b, s') → N H2) → (∀ s' H2, J Dl acc s' H2 → T (none, s') → N H2) → Post (f x s) T R →
      g v (wipe σ vs) H' (LcT σ vs tt te Dl N))
    (hd : ∀ Dl acc s H', J Dl acc s H' → Post (k (acc, s)) P R → Q (.ref Dl) H') : LcU K (.ref p) g tt te vs σ H Q := by
  refine ⟨p, rfl, ⟨xs, hs⟩, fun Dl hD => ?_⟩
  unfold compR at hP
  have hz : l.length ≤ 1000000 := by
    by_cases c : l.length ≤ 1000000
    · exact c
    · unfold guardR at hP; rw [if_neg c] at hP; exact hP.elim
  unfold guardR at hP
  rw [if_pos hz] at hP
  refine lc_tup (K := K) (a := p) (xs := xs) (fun i H' => ∃ acc s, J Dl acc s H' ∧ acc.length ≤ i ∧ Post ((compL (l.drop i) s f).bind fun q => k (acc ++ q.1, q.2)) P R) ⟨[], s0, h0 Dl hD, Nat.le_refl _, hP⟩ (fun i H' _ ⟨acc, s, j, _⟩ => hl Dl acc s H' j) ?_ ?_
  · rintro i y H' hi ⟨acc, s, j, hn, q⟩
    have h1 := (List.getElem?_eq_some_iff.mp hi).1
    rw [hr.length, List.length_map] at h1
    obtain ⟨x, hx⟩ : ∃ x, l[i]? = some x := ⟨l[i], List.getElem?_eq_getElem h1⟩
    obtain ⟨u, hu, ru⟩ := hr.get (i := i) (d := enc x) (by rw [List.getElem?_map, hx]; rfl)
    rw [hi] at hu; cases hu
    exact hb Dl _ _ x y acc s H' j ru (Nat.lt_of_le_of_lt (Nat.le_trans hn (Nat.le_trans (Nat.le_of_lt h1) hz)) (by decide)) (fun b s' H2 j2 t2 => ⟨acc ++ [b], s', j2, by rw [List.length_append]; exact Nat.succ_le_succ hn, t2⟩) (fun s' H2 j2 t2 => ⟨acc, s', j2, Nat.le_succ_of_le hn, t2⟩) (q.compS hx)
  · rintro H' ⟨acc, s, j, _, q⟩
    rw [hr.length, List.length_map, List.drop_eq_nil_of_le (Nat.le_refl _)] at q
    have q2 : Post (k (acc ++ [], s)) P R := q
    rw [List.append_nil] at q2
    exact hd Dl acc s H' j q2
end
end Y

set_option Elab.async false
set_option linter.all false
set_option maxRecDepth 100000
set_option maxHeartbeats 4000000
namespace Y
open PySem PySem.Spec PyProof.Rows
open L2
/-! # o.m(k = v) of one of several classes -/
structure MAltK (P : Program) (wo : World) (K : PySem.W.Frag) (mg : Str → Option Value) (base : Heap) (CX : CXT) (k : Nat) (m : Str) (ks : List Str) (gV : List V → List V → List V) (C : Addr) (sp : Sp) : Prop where
  ex : ∃ (f : Addr) (fd : FuncData) (ps : List Str) (g : List Value → List Value → List Value), Cls K C ∧ Meth K C m f ∧ FnOk P wo K mg base CX k f fd ps sp ∧ KBinds K fd ps ks g gV
def tMethK (A : Addr → Sp → Prop) (m : Str) (gV : List V → List V → List V) (E : L2.St → XK) (ta : TE) (tk : TA) : TE := fun σ H Q => ta σ H fun x H1 => ∃ a C dx fs sp, x = .ref a ∧ H1 a = some (.ins C dx fs) ∧ A C sp ∧ fs.lookup m = none ∧ tk σ H1 fun zs H2 => sp (gV [x] zs) H2 Q (E σ)
section
variable {X : Cx} {CX : CXT} {k : Nat} {E : L2.St → XK} {m : Str} {ks : List Str} {pos apos : Pos} {o : Expr} {kws : List Keyword} {ta : TE} {tk : TA} {A : Addr → Sp → Prop} {gV : List V → List V → List V} {f : Addr} {fd : FuncData} {ps : List Str} {sp : Sp} {g : List Value → List Value → List Value}
theorem run_fnkS {pins : List (Addr × Obj)} {σ : L2.St} {H : Hp} {s : Shared} {Q : VK} {us ws : List Value} {vs zs : List V} (F : FnOk X.prog X.w X.K X.mg X.base CX k f fd ps sp) (hr : Room k X.A) (hb : KBinds X.K fd ps ks g gV) (hx : PassesAt CX X σ (E σ))
    (I : Inv X pins σ H s) (r : Vals vs us) (rz : Vals zs ws) (h : sp (gV vs zs) H Q (E σ)) : wpAny (model X.prog X.w) X.A (call (.ref f) us (ks.zip ws)) (EP X pins σ Q) X.xe s := by
  have r2 := hb.rel r rz
  have hl : (g us ws).length = ps.length := by rw [← r2.length]; exact F.len _ _ _ _ h
  refine wpAny_call (codeAny_mono (F.run X.A X.stack s H ⟨us, ks.zip ws⟩ (g us ws) (gV vs zs) Q (E σ) hr I.env0 (hb.to s us ws I.kIn hl) r2 h) fun r s' hq => ?_)
  cases r with
  | error e => exact hx pins H s e s' I hq
  | ok fl =>
    cases fl with
    | ret u => exact I.after hq
    | next => exact False.elim hq
    | brk => exact False.elim hq
    | cont => exact False.elim hq
theorem pe_methK0 {pl : Sem Bool} (he : PE X o ta) (hA : ∀ C sp, A C sp → MAltK X.prog X.w X.K X.mg X.base CX k m ks gV C sp) (hr : Room k X.A) (hx : ∀ σ, PassesAt CX X σ (E σ)) (hkw : PK X kws tk)
    (hall : (backToKw pos (keywordEach kws X.env)).all (·.1.isSome) = true := by rfl) (hks : (backToKw pos (keywordEach kws X.env)).filterMap (·.1) = ks := by rfl)
    (hpl : ((backTo pos (starEach [] X.env)).any (·.1) || (backToKw pos (keywordEach kws X.env)).any (·.1.isNone)) = false := by rfl)
    (ht : eval (.Call (.Attribute o m apos) [] kws pos) X.env = (do
      let ov ← eval o X.env
      standAt apos.atName
      let (f, first) ← holding [ov] (getMethod ov m pl)
      callWith pos f first (backTo pos (starEach [] X.env)) (backToKw pos (keywordEach kws X.env))) := by rfl) :
    PE X (.Call (.Attribute o m apos) [] kws pos) (tMethK A m gV E ta tk) := by
  refine ⟨fun pins s σ H Q I h => ?_⟩
  refine PySem.W.methodCall_KW (pl := pl) (thn (he.run pins s σ H _ I h) fun u s1 ⟨x, H1, I1, rx, a, C, dx, fs, sp, ex, ea, hAC, l, q⟩ => ?_) ht
  subst ex
  obtain rfl : u = Value.ref a := rx
  obtain ⟨f, fd, ps, g, c, hm, F, hb⟩ := (hA C sp hAC).ex
  refine getmeth_ok I1 ea c hm l ?_
  refine PySem.W.callWith_KW0 (first := [.ref a]) (h₀ := X.base) I1.ok.mod.kin hm.kp hall ?_ hpl
  refine thn (hkw.run pos pins s1 σ H1 _ I1 q) fun ws s2 ⟨zs, H2, I2, rz, q2⟩ => ⟨I2.kIn, ?_⟩
  rw [hks]
  exact run_fnkS (us := [.ref a]) (vs := [.ref a]) F hr hb (hx σ) I2 (.cons rfl .nil) rz q2
theorem h_methKE {σ : L2.St} {H : Hp} {Q : VK} (h : ta σ H fun x H1 => ∃ a C dx fs sp, x = .ref a ∧ H1 a = some (.ins C dx fs) ∧ A C sp ∧ fs.lookup m = none ∧ tk σ H1 fun zs H2 => sp (gV [x] zs) H2 Q (E σ)) : tMethK A m gV E ta tk σ H Q := h
end
/-! # tuples: parts and sums -/
section
variable {K : PySem.W.Frag} {B H : Hp} {Q : VK} {p q : Addr} {lo hi : Option Int} {l l2 : List D}
theorem h_slA (w : Ex B H) (r : Rep K B (.ref p) (.tup (l.map Enc.enc))) (h : ∀ u B' H', Stp [] B H B' H' → Rep K B' u (.tup ((cutL l lo hi).map Enc.enc)) → Q u H') : rSlA K (.ref p) lo hi H Q := by
  obtain ⟨p', xs, e, s, rr⟩ := r.st w
  cases e
  refine ⟨p, xs, rfl, s, fun c => ?_, fun _ p2 hp2 => ?_⟩
  · have e : cutL l lo hi = l := by
      have hl : xs.length = l.length := by rw [rr.length, List.length_map]
      rw [hl] at c
      unfold cutL
      rw [c.1, c.2]
      simp
    refine h _ _ _ (Stp.refl w) ?_
    rw [e]
    exact r
  · exact h _ _ _ (Stp.new w hp2) (.tup (SqT.of upd_same) ((rr.cut lo hi).mono (Ex.new (w.none hp2))))
theorem h_catA (w : Ex B H) (r1 : Rep K B (.ref p) (.tup (l.map Enc.enc))) (r2 : Rep K B (.ref q) (.tup (l2.map Enc.enc))) (hz : l.length + l2.length ≤ 1000000) (h : ∀ u B' H', Stp [] B H B' H' → Rep K B' u (.tup ((l ++ l2).map Enc.enc)) → Q u H') : rCatA K (.ref p) (.ref q) H Q := by
  obtain ⟨p', xs, e, s1, rr1⟩ := r1.st w
  cases e
  obtain ⟨q', ys, e, s2, rr2⟩ := r2.st w
  cases e
  have hl : xs.length = l.length := by rw [rr1.length, List.length_map]
  have hl2 : ys.length = l2.length := by rw [rr2.length, List.length_map]
  refine ⟨p, q, xs, ys, rfl, rfl, s1, s2, by rw [hl, hl2]; exact Nat.le_trans hz (by decide), fun e => ?_, fun _ e => ?_, fun _ _ p2 hp2 => ?_⟩
  · subst e
    have : l = [] := List.eq_nil_of_length_eq_zero hl.symm
    subst this
    exact h _ _ _ (Stp.refl w) r2
  · subst e
    have : l2 = [] := List.eq_nil_of_length_eq_zero hl2.symm
    subst this
    refine h _ _ _ (Stp.refl w) ?_
    rw [List.append_nil]
    exact r1
  · exact h _ _ _ (Stp.new w hp2) (.tup (SqT.of upd_same) ((rr1.cat rr2).mono (Ex.new (w.none hp2))))
end
end Y

set_option Elab.async false
set_option linter.all false
set_option maxRecDepth 100000
set_option maxHeartbeats 4000000
/-! # max(xs, default = d): the loop with its keywords -/
namespace MxD
open PySem
section
variable {prog : Program} {w : World} {A : Around} {R : Result → Shared → Prop} {I : Addr} {fp wr : List Addr} {n : Nat} {P : Nat → Value → Prop} {St : Nat → Heap → Prop} {kw : List (Str × Value)}
theorem nm : (toString "max" ++ toString ".loop" : String) = "max.loop" := by decide
/-- behind the first item -/
theorem loop (W : Walks prog w A.in1 I fp wr n P St) (bt : Nat → Nat → Bool) (hcmp : CmpOf prog w A.in1 .Gt P bt) (S : Addr) (off : S ∉ fp) (k : Nat) : ∀ (j : Nat) (s : Shared) (best : Value) (c : Nat), n = j + 1 + k → St (j + 1) s.heap → P (argBest bt j) best →
    s.heap.get? S = some { cls := .type "list", dict := none, data := .seq #[best, best] c, slots := #[] } →
    (∀ v h' tk, P (argBest bt (n - 1)) v → (∀ b o, b ∉ wr → b ≠ S → s.heap.get? b = some o → h'.get? b = some o) → R (.ok (.ret v)) { s with heap := h', toks := tk }) → codeAny (model prog w) A (.builtin "max.loop" ⟨[.ref I, .none, .ref S], kw⟩) R s := by
  have offw : S ∉ wr := fun h => off (W.sub _ h)
  induction k with
  | zero =>
    intro j s best c en st pb hS fin
    refine codeAny_builtin F.entry_max_loop ?_
    rw [Around.under_plainId F.plain_max_loop _]
    show wpAny (model prog w) A.in1 (seqItems? (.ref S) >>= _) _ _ s
    refine wpAny_bind (wpAny_seqItems hS rfl ?_)
    show wpAny (model prog w) A.in1 (tryCatch (pyNext (.ref I)) _ >>= _) _ _ s
    refine wpAny_bind (wpAny_tryCatch (W.done s _ _ (en ▸ st) fun h' tk kept => ?_))
    show wpAny (model prog w) A.in1 (updateSeq S (fun _ => #[]) >>= _) _ _ _
    refine wpAny_bind (wpAny_updateSeq (kept S _ offw hS) rfl (wpAny_bind (wpAny_letGo (wpAny_pure ?_))))
    exact fin best _ tk (by rw [en]; exact pb) fun b o h1 h2 e => (Heap.get?_update_other _ _ h2.symm).trans (kept b o h1 e)
  | succ k ih =>
    intro j s best c en st pb hS fin
    refine codeAny_builtin F.entry_max_loop ?_
    rw [Around.under_plainId F.plain_max_loop _]
    show wpAny (model prog w) A.in1 (seqItems? (.ref S) >>= _) _ _ s
    refine wpAny_bind (wpAny_seqItems hS rfl ?_)
    show wpAny (model prog w) A.in1 (tryCatch (pyNext (.ref I)) _ >>= _) _ _ s
    refine wpAny_bind (wpAny_tryCatch (W.item (j + 1) s _ _ (by omega) st fun v h' tk pv st' kept => ?_))
    have hS' := kept S _ offw hS
    show wpAny (model prog w) A.in1 (tryCatch (holding [v, v] (richCompare .Gt v best >>= _)) _ >>= _) _ _ _
    refine wpAny_bind (wpAny_tryCatch (wpAny_holding (wpAny_bind (hcmp (j + 1) (argBest bt j) v best _ _ _ pv pb ?_))))
    refine wpAny_bind (wpAny_holding (wpAny_truthy_bool (wpAny_bind (wpAny_letGo (wpAny_pure ?_)))))
    by_cases hb : bt (j + 1) (argBest bt j) = true
    · rw [hb]
      simp only [if_true]
      refine wpAny_bind (wpAny_updateSeq hS' rfl (wpAny_bind (wpAny_letGo ?_)))
      rw [nm]
      refine wpAny_pure ⟨plainId_quiet F.plain_max_loop _, ih (j + 1) _ v _ (by omega) (W.frame _ _ _ st' fun b hf o e => (Heap.get?_update_other _ _ (fun q : S = b => off (by rw [q]; exact hf))).trans e) (by simp only [argBest, hb, if_true]; exact pv) (Heap.get?_update_self _ hS' rfl) fun v2 h2 tk2 p2 k2 => ?_⟩
      exact fin v2 h2 tk2 p2 fun b o h1 hn e => k2 b o h1 hn ((Heap.get?_update_other _ _ hn.symm).trans (kept b o h1 e))
    · have hb := Bool.eq_false_iff.mpr hb
      rw [hb]
      simp only [Bool.false_eq_true, if_false]
      refine wpAny_bind (wpAny_letGo ?_)
      rw [nm]
      refine wpAny_pure ⟨plainId_quiet F.plain_max_loop _, ih (j + 1) _ best c (by omega) st' (by simp only [argBest, hb, Bool.false_eq_true, if_false]; exact pb) hS' fun v2 h2 tk2 p2 k2 => ?_⟩
      exact fin v2 h2 tk2 p2 fun b o h1 hn e => k2 b o h1 hn (kept b o h1 e)
theorem first (W : Walks prog w A.in1 I fp wr n P St) (bt : Nat → Nat → Bool) (hcmp : CmpOf prog w A.in1 .Gt P bt) (S : Addr) (off : S ∉ fp) (hn : 0 < n) {s : Shared} {c : Nat} (st : St 0 s.heap)
    (hS : s.heap.get? S = some { cls := .type "list", dict := none, data := .seq #[] c, slots := #[] })
    (fin : ∀ v h' tk, P (argBest bt (n - 1)) v → (∀ b o, b ∉ wr → b ≠ S → s.heap.get? b = some o → h'.get? b = some o) → R (.ok (.ret v)) { s with heap := h', toks := tk }) : codeAny (model prog w) A (.builtin "max.loop" ⟨[.ref I, .none, .ref S], kw⟩) R s := by
  have offw : S ∉ wr := fun h => off (W.sub _ h)
  refine codeAny_builtin F.entry_max_loop ?_
  rw [Around.under_plainId F.plain_max_loop _]
  show wpAny (model prog w) A.in1 (seqItems? (.ref S) >>= _) _ _ s
  refine wpAny_bind (wpAny_seqItems hS rfl ?_)
  show wpAny (model prog w) A.in1 (tryCatch (pyNext (.ref I)) _ >>= _) _ _ s
  refine wpAny_bind (wpAny_tryCatch (W.item 0 s _ _ hn st fun v h' tk pv st' kept => ?_))
  have hS' := kept S _ offw hS
  show wpAny (model prog w) A.in1 (updateSeq S (fun _ => #[v, v]) >>= _) _ _ _
  refine wpAny_bind (wpAny_updateSeq hS' rfl ?_)
  rw [nm]
  refine wpAny_pure ⟨plainId_quiet F.plain_max_loop _, loop W bt hcmp S off (n - 1) 0 _ v _ (by omega) (W.frame _ _ _ st' fun b hf o e => (Heap.get?_update_other _ _ (fun q : S = b => off (by rw [q]; exact hf))).trans e) pv (Heap.get?_update_self _ hS' rfl) fun v2 h2 tk2 p2 k2 => ?_⟩
  exact fin v2 h2 tk2 p2 fun b o h1 hn e => k2 b o h1 hn ((Heap.get?_update_other _ _ hn.symm).trans (kept b o h1 e))
/-- no item: the default -/
theorem none_ (W : Walks prog w A.in1 I fp wr n P St) (n0 : n = 0) (S : Addr) (off : S ∉ fp) {s : Shared} {c : Nat} {d : Value} {x : Str} (st : St 0 s.heap)
    (hS : s.heap.get? S = some { cls := .type "list", dict := none, data := .seq #[] c, slots := #[] })
    (fin : ∀ h' tk, (∀ b o, b ∉ wr → b ≠ S → s.heap.get? b = some o → h'.get? b = some o) → R (.ok (.ret d)) { s with heap := h', toks := tk }) : codeAny (model prog w) A (.builtin "max.loop" ⟨[.ref I, .none, .ref S], [(x, d)]⟩) R s := by
  refine codeAny_builtin F.entry_max_loop ?_
  rw [Around.under_plainId F.plain_max_loop _]
  show wpAny (model prog w) A.in1 (seqItems? (.ref S) >>= _) _ _ s
  refine wpAny_bind (wpAny_seqItems hS rfl ?_)
  show wpAny (model prog w) A.in1 (tryCatch (pyNext (.ref I)) _ >>= _) _ _ s
  refine wpAny_bind (wpAny_tryCatch (W.done s _ _ (n0.symm ▸ st) fun h' tk kept => ?_))
  exact wpAny_bind (wpAny_rule (wpAny_pure (fin h' tk fun b o h1 _ e => kept b o h1 e)))
end
theorem args_max_d (a d : Value) : argsOk "max" ⟨[a], [(Str.ofString "default", d)]⟩ := by unfold argsOk; kernel_rfl
theorem call_tree_kw {prog : Program} {w : World} {A : Around} {s : Shared} {E : Value → Shared → Prop} {id : String} {b : Builtin} {args : List Value} {kw : List (Str × Value)} {Q : Value → Shared → Prop} (hk : builtinKind id = none) (hp : plainId id = true) (hb : entryFor table id = some b) (ha : argsOk id ⟨args, kw⟩)
    (hc : wpAny (model prog w) A.in1 (b ⟨args, kw⟩) (fun fin s' => match fin with
      | .done f => (match (Except.ok f : Result) with | .ok (.ret v) => Q v s' | .ok _ => False | .error e => E e s')
      | .again c => c.quiet = true ∧ codeAny (model prog w) A c (fun r s' => match r with | .ok (.ret v) => Q v s' | .ok _ => False | .error e => E e s') s') E s) : wpAny (model prog w) A (call (.builtin id) args kw) Q E s := by
  refine wpAny_call (codeAny_call_builtin hp hb ?_)
  simp only [checkBuiltinCall, hk]
  cases hsig : Manifest.signature? id with
  | none => exact wpAny_pure hc
  | some sig =>
    simp only [argsOk, hsig] at ha
    have h2 : Bind.checkArgs id sig ⟨args, kw⟩ = pure () := ha
    show wpAny (model prog w) A.in1 (Bind.checkArgs id sig ⟨args, kw⟩) _ _ s
    rw [h2]
    exact wpAny_pure hc
open PyProof.Rows L2 in
theorem raw {prog : Program} {w : World} {A : Around} {s : Shared} {E Q : Value → Shared → Prop} {l : Addr} {its : List Value} {ns : List Int} {d : Int} {td : Tok} (hh : A.handled = none) (hl : s.heap.IsList l its.toArray) (hi : IntsAre its ns)
    (h : ∀ h' tk M t', (∀ b o, s.heap.get? b = some o → h'.get? b = some o) → (ns ≠ [] → M ∈ ns ∧ ∀ a, a ∈ ns → a ≤ M) → (ns = [] → M = d) → Q (.int M t') { s with heap := h', toks := tk }) : wpAny (model prog w) A (call (.builtin "max") [.ref l] [(Str.ofString "default", .int d td)]) Q E s := by
  obtain ⟨xs, e⟩ := hi.allInts.items
  have hn : numsOf (intItems xs).toList = ns := by rw [← e]; exact hi.numsOf
  rw [nums_intItems] at hn
  subst hn
  rw [e] at hl
  refine call_tree_kw F.kind_max F.plain_max F.entry_max (args_max_d _ _) ?_
  show wpAny (model prog w) A.in1 (Builtin.Builtins.bindParams "max" ["key", "default"] 0 ⟨[], [(Str.ofString "default", .int d td)]⟩ >>= _) _ _ s
  refine wpAny_bind (wpAny_of_eq (show Builtin.Builtins.bindParams "max" ["key", "default"] 0 ⟨[], [(Str.ofString "default", .int d td)]⟩ = pure [none, some (.int d td)] by kernel_rfl) ?_)
  refine wpAny_bind (wpAny_pure ?_)
  refine wpAny_bind (wpAny_mono (iter_intList (Q := fun it s₂ => it = .ref s.heap.objs.size ∧ s₂ = { s with heap := s.heap.push { cls := .type "list_iterator", data := .fields #[.ref l, .int 0 0] } } ∧ (s₂.heap.IsListIter s.heap.objs.size l 0 ∧ s₂.heap.IsList l (intItems xs)) ∧ ∀ b ∈ [s.heap.objs.size, l], b < s₂.heap.objs.size) hl fun s₂ e st hfp hlI => ⟨rfl, e, st, hfp⟩) ?_ fun _ _ e => e)
  rintro _ s₂ ⟨rfl, e, st, hfp⟩
  subst e
  have hne : l ≠ s.heap.objs.size := by obtain ⟨_, e, _⟩ := hl; exact Nat.ne_of_lt (Heap.lt_size e)
  have W := Walks.list (prog := prog) (w := w) (A := A.in1) hh _ l hne (intItems xs)
  refine wpAny_bind (wpAny_newObj_type ?_)
  rw [nm]
  have off := fun hm => Nat.lt_irrefl _ (hfp _ hm)
  have st2 := fun o2 : Obj => W.frame 0 _ ((s.heap.push { cls := .type "list_iterator", data := .fields #[.ref l, .int 0 0] }).push o2) st fun b _ o e => Heap.get?_push_of_some _ e
  have old : ∀ (h' : Heap) {S : Addr}, S = s.heap.objs.size + 1 → (∀ b o, b ∉ [s.heap.objs.size] → b ≠ S → ((s.heap.push { cls := .type "list_iterator", data := .fields #[.ref l, .int 0 0] }).push { cls := .type "list", data := .seq #[] }).get? b = some o → h'.get? b = some o) → ∀ b o, s.heap.get? b = some o → h'.get? b = some o := fun h' S eS k b o e => by
    have hb := Heap.lt_size e
    refine k b o (fun m => ?_) (by rw [eS]; exact Nat.ne_of_lt (Nat.lt_succ_of_lt hb)) (Heap.get?_push_of_some _ (Heap.get?_push_of_some _ e))
    rw [List.mem_singleton.mp m] at hb
    exact Nat.lt_irrefl _ hb
  have eS : ∀ o : Obj, (s.heap.push o).objs.size = s.heap.objs.size + 1 := fun o => Heap.size_push ..
  have sz : (intItems xs).size = xs.size := by simp [intItems]
  by_cases hz : (intItems xs).size = 0
  · refine wpAny_pure ⟨plainId_quiet F.plain_max_loop _, none_ W hz _ off (st2 _) (Heap.get?_push_size _ rfl) fun h' tk kept => ?_⟩
    have : xs.toList = [] := by
      apply List.eq_nil_of_length_eq_zero
      rw [Array.length_toList]
      omega
    exact h h' tk d td (old h' (eS _) kept) (fun q => absurd (by rw [this]; rfl) q) fun _ => rfl
  · refine wpAny_pure ⟨plainId_quiet F.plain_max_loop _, first W _ (CmpOf.ints_gt (numAt xs) (fun _ _ => intItems_at)) _ off (by omega) (st2 _) (Heap.get?_push_size _ rfl) fun v h' tk pv kept => ?_⟩
    obtain ⟨t, rfl⟩ := intItems_at (show (intItems xs)[_]? = some v from pv)
    obtain ⟨h1, h2⟩ := argBest_gt (numAt xs) ((intItems xs).size - 1)
    refine h h' tk _ t (old h' (eS _) kept) (fun _ => ⟨?_, fun a ha => ?_⟩) fun q => absurd q ?_
    · rw [numAt_eq]; exact PySem.getD_mem (by rw [List.length_map, Array.length_toList]; omega)
    · obtain ⟨j, hj, rfl⟩ := mem_getD ha
      rw [List.length_map, Array.length_toList] at hj
      rw [← numAt_eq]; exact h2 j (by omega)
    · intro e2
      have := congrArg List.length e2
      rw [List.length_map, Array.length_toList] at this
      have : xs.size = 0 := this
      omega
open PyProof.Rows L2 in
theorem rawT {prog : Program} {w : World} {A : Around} {s : Shared} {E Q : Value → Shared → Prop} {l : Addr} {its : List Value} {ns : List Int} (hh : A.handled = none) (hT : s.heap.IsTuple l its.toArray) (hi : IntsAre its ns) (hne : ns ≠ [])
    (h : ∀ h' tk M t', (∀ b o, s.heap.get? b = some o → h'.get? b = some o) → M ∈ ns → (∀ a, a ∈ ns → a ≤ M) → Q (.int M t') { s with heap := h', toks := tk }) : wpAny (model prog w) A (call (.builtin "max") [.ref l]) Q E s := by
  obtain ⟨xs, e⟩ := hi.allInts.items
  have hn : numsOf (intItems xs).toList = ns := by rw [← e]; exact hi.numsOf
  rw [nums_intItems] at hn
  subst hn
  rw [e] at hT
  have lt : l < s.heap.objs.size := by obtain ⟨_, e, _⟩ := hT; exact Heap.lt_size e
  have sz : (intItems xs).size = xs.size := by simp [intItems]
  have hx : 0 < xs.size := by
    cases q : xs.size with
    | zero => exact absurd (List.eq_nil_of_length_eq_zero (by rw [List.length_map, Array.length_toList]; exact q)) hne
    | succ n => exact Nat.succ_pos n
  refine call_max_walk (wpAny_pyIter_tuple hT ?_)
  refine ⟨_, [_, l], [_], _, _, _, _, rfl, Walks.tuple (A := A.in1) hh _ l (Nat.ne_of_lt lt) (intItems xs), ⟨⟨_, Heap.get?_push_size _ rfl, rfl, rfl⟩, hT.push _⟩, fun c hc => ?_, by rw [sz]; exact hx, CmpOf.ints_gt (numAt xs) (fun _ _ => intItems_at), fun v h' tk pv hk => ?_⟩
  · show c < (s.heap.push _).objs.size
    rw [Heap.size_push]
    rcases List.mem_cons.mp hc with rfl | hc
    · exact Nat.lt_succ_self _
    · rw [List.mem_singleton.mp hc]; exact Nat.lt_succ_of_lt lt
  · obtain ⟨t, rfl⟩ := intItems_at (show (intItems xs)[_]? = some v from pv)
    obtain ⟨h1, h2⟩ := argBest_gt (numAt xs) ((intItems xs).size - 1)
    refine h h' tk _ t (fun b o e => hk b o (fun m => ?_) (Heap.get?_push_of_some _ e)) ?_ fun a ha => ?_
    · have := Heap.lt_size e
      rw [List.mem_singleton.mp m] at this
      exact Nat.lt_irrefl _ this
    · rw [numAt_eq]; exact PySem.getD_mem (by rw [List.length_map, Array.length_toList]; omega)
    · obtain ⟨j, hj, rfl⟩ := mem_getD ha
      rw [List.length_map, Array.length_toList] at hj
      rw [← numAt_eq]; exact h2 j (by omega)
end MxD
namespace Y
open PySem PySem.Spec PyProof.Rows
open L2
def maxL (d : Int) : List Int → Int
  | [] => d
  | n :: r => r.foldl (fun a b => if a < b then b else a) n
theorem foldmax : ∀ (r : List Int) (n : Int), (r.foldl (fun a b => if a < b then b else a) n = n ∨ r.foldl (fun a b => if a < b then b else a) n ∈ r) ∧ n ≤ r.foldl (fun a b => if a < b then b else a) n ∧ ∀ a ∈ r, a ≤ r.foldl (fun a b => if a < b then b else a) n
  | [], n => ⟨.inl rfl, Int.le_refl _, fun _ m => nomatch m⟩
  | x :: r, n => by
    obtain ⟨h1, h2, h3⟩ := foldmax r (if n < x then x else n)
    simp only [List.foldl_cons]
    have hx : n ≤ (if n < x then x else n) ∧ x ≤ (if n < x then x else n) := by split <;> omega
    refine ⟨?_, Int.le_trans hx.1 h2, fun a m => ?_⟩
    · rcases h1 with e | m
      · rw [e]
        split
        · exact .inr List.mem_cons_self
        · exact .inl rfl
      · exact .inr (List.mem_cons_of_mem _ m)
    · rcases List.mem_cons.mp m with rfl | m
      · exact Int.le_trans hx.2 h2
      · exact h3 a m
theorem maxL_eq {ns : List Int} {M d : Int} (h : ns ≠ [] → M ∈ ns ∧ ∀ a, a ∈ ns → a ≤ M) (h0 : ns = [] → M = d) : M = maxL d ns := by
  cases ns with
  | nil => exact h0 rfl
  | cons n r =>
    obtain ⟨m, u⟩ := h (by simp)
    obtain ⟨h1, h2, h3⟩ := foldmax r n
    refine Int.le_antisymm ?_ (u _ ?_)
    · rcases List.mem_cons.mp m with rfl | m
      · exact h2
      · exact h3 M m
    · rcases h1 with e | m
      · show r.foldl _ n ∈ _
        rw [e]; exact List.mem_cons_self
      · exact List.mem_cons_of_mem _ m
def rMaxD (K : PySem.W.Frag) : List V → List V → Hp → VK → Prop := fun vs zs H Q => ∃ (a : Addr) (ns : List Int) (d : Int), vs = [V.ref a] ∧ zs = [.int d] ∧ SqL K H a (ns.map V.int) ∧ Q (.int (maxL d ns)) H
theorem cr_maxDef {X : Cx} (hc : X.calm = true) : CallRK X (.builtin "max") [Str.ofString "default"] (rMaxD X.K) := by
  intro pins s σ H vs zs us ws Q I r rz h
  obtain ⟨a, ns, d, rfl, rfl, hs, q⟩ := h
  obtain ⟨its, rv, hl, _⟩ := I.list hs
  obtain rfl := Vals.ref1 r
  obtain ⟨w1, rfl, t, e1⟩ := vals1 rz
  subst e1
  refine MxD.raw (I.ok.hd hc) hl.isList rv.ints fun h' tk m t' hk h1 h2 => ⟨.int _, H, I.kept hk, ⟨_, rfl⟩, ?_⟩
  rw [maxL_eq h1 h2]
  exact q
def rMaxT (K : PySem.W.Frag) : List V → Hp → VK → Prop := fun vs H Q => ∃ (a : Addr) (ns : List Int), vs = [V.ref a] ∧ ns ≠ [] ∧ SqT K H a (ns.map V.int) ∧ Q (.int (maxL 0 ns)) H
theorem cr_maxTup {X : Cx} (hc : X.calm = true) : CallR X (.builtin "max") (rMaxT X.K) := by
  intro pins s σ H vs us Q I r h
  obtain ⟨a, ns, rfl, hne, hs, q⟩ := h
  obtain ⟨its, rv, hl, _⟩ := I.tuple hs
  obtain rfl := Vals.ref1 r
  refine MxD.rawT (I.ok.hd hc) hl rv.ints hne fun h' tk m t' hk h1 h2 => ⟨.int _, H, I.kept hk, ⟨_, rfl⟩, ?_⟩
  rw [maxL_eq (d := 0) (fun _ => ⟨h1, h2⟩) fun e => absurd e hne]
  exact q
/-- the numbers of a tuple of numbers -/
def intsO : List D → Option (List Int)
  | [] => some []
  | .int i :: r => (intsO r).map (i :: ·)
  | _ :: _ => none
theorem intsO_eq : ∀ {ds : List D} {ns : List Int}, intsO ds = some ns → ds = ns.map D.int
  | [], ns, e => by cases e; rfl
  | .int i :: r, ns, e => by
    cases q : intsO r with
    | none =>
      have e' : (intsO r).map (i :: ·) = some ns := e
      rw [q] at e'; exact nomatch e'
    | some m =>
      have e' : (intsO r).map (i :: ·) = some ns := e
      rw [q] at e'
      cases e'
      rw [intsO_eq q]
      rfl
def asIs (d : D) : Res (List Int) := match d with | .tup ds => (match intsO ds with | Option.some (n :: r) => .ok (n :: r) | _ => .stuck) | _ => .stuck
theorem Post.asIs {β : Type} {d : D} {k : List Int → Res β} {P : β → Prop} {R : Err → Prop} (h : Post ((Y.asIs d).bind k) P R) : ∃ ns : List Int, ns ≠ [] ∧ d = .tup (ns.map D.int) ∧ Post (k ns) P R := by
  cases d with
  | tup ds =>
    have h' : Post ((match intsO ds with | Option.some (n :: r) => Res.ok (n :: r) | _ => Res.stuck).bind k) P R := h
    cases q : intsO ds with
    | none => rw [q] at h'; exact h'.elim
    | some m =>
      rw [q] at h'
      cases m with
      | nil => exact h'.elim
      | cons n r => exact ⟨n :: r, by simp, by rw [intsO_eq q], h'⟩
  | _ => exact h.elim
theorem h_maxTup {K : PySem.W.Frag} {B H : Hp} {Q : VK} {v : V} {ns : List Int} (w : Ex B H) (hne : ns ≠ []) (r : Rep K B v (.tup (ns.map D.int))) (h : Q (.int (maxL 0 ns)) H) : rMaxT K [v] H Q := by
  obtain ⟨p, xs, rfl, s, rr⟩ := r.st w
  refine ⟨p, ns, rfl, hne, ?_, h⟩
  rw [← RepL.of_ints rr]
  exact s
theorem h_ckw {σ : L2.St} {H : Hp} {Q : VK} {r : List V → List V → Hp → VK → Prop} {t tk : TA} (h : t σ H fun vs H1 => tk σ H1 fun zs H2 => r vs zs H2 Q) : tCKw r t tk σ H Q := h
theorem h_maxDef {K : PySem.W.Frag} {B H : Hp} {Q : VK} {p : Addr} {xs : List V} {l : List Int} {d : Int} (s : SqL K H p xs) (r : RepL K B xs (l.map Enc.enc)) (h : Q (.int (maxL d l)) H) : rMaxD K [.ref p] [.int d] H Q := by
  refine ⟨p, l, d, rfl, rfl, ?_, h⟩
  rw [← r.intsV]
  exact s
/-! # x & 255 -/
def rAnd255 : V → V → Hp → VK → Prop := fun x y H Q => ∃ (i : Int) (k : Nat), x = .int i ∧ y = .int (2 ^ k - 1) ∧ Q (.int (i % 2 ^ k)) H
theorem op_and255 {X : Cx} : OpR X (binaryOp .BitAnd) rAnd255 := op_andM
theorem h_and255 {H : Hp} {Q : VK} {i : Int} (h : Q (.int (i % 256)) H) : rAnd255 (.int i) (.int 255) H Q := ⟨i, 8, rfl, rfl, h⟩
/-! # what is never reached -/
theorem ps_unreached {X : Cx} {st : Stmt} : PS X st (fun _ _ _ => False) := ⟨fun _ _ _ _ _ _ h => h.elim⟩
theorem pss_unreached {X : Cx} {ss : List Stmt} : PSs X ss (fun _ _ _ => False) := ⟨fun _ _ _ _ _ _ h => h.elim⟩
/-! # comprehensions with places, and over two lists -/
section
variable {K : PySem.W.Frag} {B H : Hp} {σ : L2.St} {Q : VK} {p p2 : Addr} {xs ys : List V} {g : TG} {tt : TT} {te : TE} {α α' β S R' : Type} {P : β → Prop} {R : Err → Prop}
def LcE (K : PySem.W.Frag) (ws : List V) (g : TG) (tt : TT) (te : TE) (vs : List Nat) (σ : L2.St) (H : Hp) (Q : VK) : Prop := tLc (iEnum K (fun _ H Q => Q ws H)) g tt te vs σ H Q
theorem h_lcEnE {vs : List Nat} {ta : TA} (h : ta σ H fun ws H1 => LcE K ws g tt te vs σ H1 Q) : tLc (iEnum K ta) g tt te vs σ H Q := h
theorem h_lcEn [Enc α] {l : List α} {s0 : S} {f : Tp2 Int α → S → Res (Option R' × S)} {k : List R' × S → Res β} {vs : List Nat} (hP : Post ((compR (enumL l) s0 f).bind k) P R) (hs : SqL K H p xs) (hr : RepL K B xs (l.map Enc.enc))
    (J : Addr → List R' → S → Hp → Prop) (h0 : ∀ Dl, H Dl = none → J Dl [] s0 (upd H Dl (.lst []))) (hl : ∀ Dl acc s H', J Dl acc s H' → SqL K H' p xs)
    (hb : ∀ (Dl : Addr) (N : Hp → Prop) (T : Option R' × S → Prop) (x : Tp2 Int α) u acc s H', J Dl acc s H' → Rep K B u (Enc.enc x.b) → acc.length < sizeLine → (∀ b s' H2, J Dl (acc ++ [b]) s' H2 → T (some b, s') → N H2) → (∀ s' H2, J Dl acc s' H2 → T (none, s') → N H2) → Post (f x s) T R →
      NewT [.int x.a, u] H' fun v H1 => g v (wipe σ vs) H1 (LcT σ vs tt te Dl N))
    (hd : ∀ Dl acc s H', J Dl acc s H' → Post (k (acc, s)) P R → Q (.ref Dl) H') : LcE K [.ref p] g tt te vs σ H Q := by
  refine ⟨p, xs, rfl, hs, fun Dl hD => ?_⟩
  unfold compR at hP
  have hll : xs.length = l.length := by rw [hr.length, List.length_map]
  have hel : (enumL l).length = l.length := by unfold enumL; rw [List.length_mapIdx]
  have hz : (enumL l).length ≤ 1000000 := by
    by_cases c : (enumL l).length ≤ 1000000
    · exact c
    · unfold guardR at hP; rw [if_neg c] at hP; exact hP.elim
  unfold guardR at hP
  rw [if_pos hz] at hP
  refine lc_it (n := xs.length) walk_enum (fun i H' => ∃ acc s, J Dl acc s H' ∧ acc.length ≤ i ∧ Post ((compL ((enumL l).drop i) s f).bind fun q => k (acc ++ q.1, q.2)) P R) ⟨[], s0, h0 Dl hD, Nat.le_refl _, hP⟩ (fun i H' _ ⟨acc, s, j, _⟩ => hl Dl acc s H' j) ?_ ?_
  · rintro i v H' H2 hi ⟨acc, s, j, hn, q⟩ ⟨T, y1, y2, rfl, hT, rfl, h1, h2⟩
    cases Option.some.inj h1
    have hil : i < l.length := by omega
    have hx : (enumL l)[i]? = some ⟨(i : Int), l[i]⟩ := by
      unfold enumL
      rw [List.getElem?_mapIdx, List.getElem?_eq_getElem hil]
      rfl
    obtain ⟨u, hu, ru⟩ := hr.get (i := i) (d := Enc.enc l[i]) (by rw [List.getElem?_map, List.getElem?_eq_getElem hil]; rfl)
    have h2 : xs[i]? = some y2 := h2
    rw [h2] at hu; cases hu
    exact (hb Dl _ _ ⟨(i : Int), l[i]⟩ y2 acc s H' j ru (Nat.lt_of_le_of_lt (Nat.le_trans hn (Nat.le_trans (Nat.le_of_lt (hel.symm ▸ hil)) hz)) (by decide)) (fun b s' H2 j2 t2 => ⟨acc ++ [b], s', j2, by rw [List.length_append]; exact Nat.succ_le_succ hn, t2⟩) (fun s' H2 j2 t2 => ⟨acc, s', j2, Nat.le_succ_of_le hn, t2⟩) (q.compS hx)).2 T hT
  · rintro H' ⟨acc, s, j, _, q⟩
    rw [List.drop_eq_nil_of_le (by rw [hel, hll]; exact Nat.le_refl _)] at q
    have q2 : Post (k (acc ++ [], s)) P R := q
    rw [List.append_nil] at q2
    exact hd Dl acc s H' j q2
end
/-! # reverse, clear -/
section
variable {K : PySem.W.Frag} {B H : Hp} {Q : VK} {p : Addr} {ds : List D}
theorem h_reverse {α : Type} [Enc α] {l : List α} (w : Ex B H) (m : Mu K B H p (l.map Enc.enc)) (h : ∀ H', Stp [p] B H B H' → Mu K B H' p (l.reverse.map Enc.enc) → Q .non H') : rReverse (.ref p) [] H Q := by
  obtain ⟨xs, hp, _, rl⟩ := m.sq
  obtain ⟨s, m'⟩ := Stp.mut w m (RepL.rev (l := l) rl)
  exact ⟨p, xs, rfl, rfl, hp, h _ s m'⟩
theorem h_clear {α : Type} [Enc α] {l : List α} (w : Ex B H) (m : Mu K B H p (l.map Enc.enc)) (h : ∀ H', Stp [p] B H B H' → Mu K B H' p (([] : List α).map Enc.enc) → Q .non H') : rClear (.ref p) [] H Q := by
  obtain ⟨xs, hp, _, rl⟩ := m.sq
  obtain ⟨s, m'⟩ := Stp.mut (es := []) w m .nil
  exact ⟨p, xs, rfl, rfl, hp, h _ s m'⟩
end
theorem ExcT.toExcT {K : PySem.W.Frag} {mg : Str → Option Value} {nm : Str} {C : Addr} (T : ExcT K mg nm C) : ExcT K mg nm C := T
end Y

set_option Elab.async false
set_option linter.all false
set_option maxRecDepth 100000
set_option maxHeartbeats 4000000
namespace Y
open PySem PySem.Spec PyProof.Rows
open L2
open Enc (enc)
/-! # ints that the module names; divmod; x in a list of data -/
structure CI (mg : Str → Option Value) (nm : Str) (i : Int) : Prop where
  g : ∃ t, mg nm = Option.some (.int i t)
theorem pe_globI {X : Cx} {x : Str} {i : Int} {pos : Pos} (hg : Gl X x) (c : CI X.mg x i) (hd : (x == ("__debug__" : Str)) = false := by decide) : PE X (.Name x pos) (tC (.int i)) := by
  obtain ⟨t, h⟩ := c.g
  exact pe_glob (v := .int i) hg h ⟨t, rfl⟩ hd
theorem hu65_of {A : Around} {k : Nat} (hr : Room k A) : A.units + 65 < cLine := by have := hr.un; omega
def rDivmod : List V → Hp → VK → Prop := fun xs H Q => ∃ i j, xs = [.int i, .int j] ∧ CDiv i j ∧ ∀ p, H p = none → Q (.ref p) (upd H p (.tup [.int (i / j), .int (i % j)]))
theorem cr_divmod {X : Cx} : CallR X (.builtin "divmod") rDivmod := call_divmod
/-- x in l, of data -/
def inD (x : D) (l : List D) : Bool := (pyDs l).any fun z => PyData.eqv z (pyD x)
section
variable {K : PySem.W.Frag} {B H : Hp} {Q : VK} {x y : V} {d : D} {es : List D} {i j : Int}
theorem h_divmod (w : Ex B H) (hc : CDiv i j) (h : ∀ p B' H', Stp [] B H B' H' → Rep K B' (.ref p) (enc (⟨i / j, i % j⟩ : Tp2 Int Int)) → Q (.ref p) H') : rDivmod [.int i, .int j] H Q :=
  ⟨i, j, rfl, hc, fun p hp => h p _ _ (Stp.new w hp) (.tup (SqT.of upd_same) (.cons (.int _) (.cons (.int _) .nil)))⟩
theorem h_inD (w : Ex B H) (rx : Rep K B x d) (ry : Rep K B y (.lst es)) (o : okEq d (.lst es)) (h : Q (.bl (inD d es)) H) : rInD K x y H Q := ⟨_, _, rx.dp w o.1, ry.dp w o.2.1, o.2.2.1, o.2.2.2, h⟩
end
end Y

set_option Elab.async false
set_option linter.all false
set_option maxRecDepth 100000
set_option maxHeartbeats 4000000
namespace A
open PySem PySem.Spec PyProof.Rows L2 Y
open Y.Enc (enc)
abbrev top (i : Nat) : Stmt := PySem.Challenge.pw_lanescroll_k12_what_is_no_edit.main.body.getD i (.Pass ⟨0, 0, 0, 0⟩)
def isWhole (d : D) (lo hi : Int) : Bool := match d with
  | .int i => decide (lo ≤ i) && decide (i ≤ hi)
  | _ => false
def m_is_whole (d : D) (lo hi : Int) : Res Bool := .ok (isWhole d lo hi)
/-! ### divisor -/
def m_divisor (a_one : Int) (a_other : Int) : Res Int :=
  lt ((absI a_one) : Int) fun x1 => lt ((absI a_other) : Int) fun x2 => (whileR (x2.natAbs + 1) ((x1, x2) : Int × Int) (fun (a12 : Int × Int) => (if (decide (0 < a12.2)) = true then guardR (0 < a12.2) <| lt ((a12.1 % a12.2) : Int) fun x16 => .ok (.nx (a12.2, x16)) else .ok (.bk (a12.1, a12.2))))).bind (afterR fun a17 => .ok a17.1)
def sp_divisor (K : PySem.W.Frag) : Sp := fun vs H Q _ => ∃ (B : Hp) (a_one : Int) (a_other : Int), Ex B H ∧ vs = [.int a_one, .int a_other] ∧ Post (m_divisor a_one a_other) (fun r => Ret K [] B H (enc r) Q) (fun _ => False)
abbrev s_divisor : Stmt := top 7
theorem sc_divisor : FnScope ["one", "other"] ["one", "other"] (defScope s_divisor) := ⟨rfl, rfl, rfl, by decide +kernel, rfl, by decide +kernel, by decide +kernel⟩
/-! ### is_number -/
def m_is_number (a_thing : D) : Res Bool :=
  (if (isA "int" a_thing) = true then .ok (!(isA "bool" a_thing)) else .ok false)
def sp_is_number (K : PySem.W.Frag) : Sp := fun vs H Q _ => ∃ (B : Hp) (v_thing : V) (a_thing : D), Ex B H ∧ vs = [v_thing] ∧ Rep K B v_thing (enc a_thing) ∧ Post (m_is_number a_thing) (fun r => Ret K [] B H (enc r) Q) (fun _ => False)
abbrev s_is_number : Stmt := top 8
theorem sc_is_number : FnScope ["thing"] ["thing"] (defScope s_is_number) := ⟨rfl, rfl, rfl, by decide +kernel, rfl, by decide +kernel, by decide +kernel⟩
/-! ### fraction -/
def m_fraction (a_top : D) (a_bottom : D) : Res (Tp2 Int Int) :=
  ((m_is_number a_top).noErr).bind fun x1 => (if x1 = true then ((m_is_number a_bottom).noErr).bind fun x7 => (if x7 = true then guardR (okEq a_bottom (enc (0 : Int))) <| (if (eqD a_bottom (enc (0 : Int))) = true then .err ⟨"NoFraction", []⟩ else (asI a_top).bind fun i13 => (asI a_bottom).bind fun i16 => ((m_divisor i13 i16).noErr).bind fun x19 => ((if (decide (i16 < 0)) = true then lt ((-x19) : Int) fun x28 => .ok x28 else .ok x19) : Res (Int)).bind fun a29 => guardR (CDivZ i13 a29) <| guardR (CDivZ i16 a29) <| .ok (⟨(Int.fdiv i13 a29), (Int.fdiv i16 a29)⟩ : (Tp2 Int Int))) else .err ⟨"NoFraction", []⟩) else .err ⟨"NoFraction", []⟩)
def sp_fraction (K : PySem.W.Frag) (mg : Str → Option Value) : Sp := fun vs H Q E => ∃ (B : Hp) (v_top : V) (a_top : D) (v_bottom : V) (a_bottom : D), Ex B H ∧ vs = [v_top, v_bottom] ∧ Rep K B v_top (enc a_top) ∧ Rep K B v_bottom (enc a_bottom) ∧ Post (m_fraction a_top a_bottom) (fun r => Ret K [] B H (enc r) Q) (fun e => Rai mg [] B H e E)
abbrev s_fraction : Stmt := top 9
theorem sc_fraction : FnScope ["top", "bottom", "share"] ["top", "bottom"] (defScope s_fraction) := ⟨rfl, rfl, rfl, by decide +kernel, rfl, by decide +kernel, by decide +kernel⟩
/-! ### is_fraction -/
def m_is_fraction (a_thing : D) : Res Bool :=
  (if (isA "tuple" a_thing) = true then (asT a_thing).bind fun l1 => (if (!decide ((l1.length : Int) = 2)) = true then .ok false else (asT a_thing).bind fun l8 => guardR (l8.length = 2) <| (ixR l8 0).bind fun x16 => (ixR l8 1).bind fun x20 => (m_is_number x16).bind fun x24 => (if x24 = true then (m_is_number x20).bind fun x30 => (if x30 = true then (asI x20).bind fun i36 => (if (decide (i36 < 1)) = true then .ok false else (asI x16).bind fun i39 => (m_divisor i39 i36).bind fun x42 => .ok (decide (x42 = 1))) else .ok false) else .ok false)) else .ok false)
def sp_is_fraction (K : PySem.W.Frag) : Sp := fun vs H Q _ => ∃ (B : Hp) (v_thing : V) (a_thing : D), Ex B H ∧ vs = [v_thing] ∧ Rep K B v_thing (enc a_thing) ∧ Post (m_is_fraction a_thing) (fun r => Ret K [] B H (enc r) Q) (fun _ => False)
abbrev s_is_fraction : Stmt := top 10
theorem sc_is_fraction : FnScope ["thing", "top", "bottom"] ["thing"] (defScope s_is_fraction) := ⟨rfl, rfl, rfl, by decide +kernel, rfl, by decide +kernel, by decide +kernel⟩
/-! ### is_moment -/
def m_is_moment (a_thing : D) : Res Bool :=
  (m_is_fraction a_thing).bind fun x1 => (if x1 = true then (asT a_thing).bind fun l7 => (ixR l7 0).bind fun x14 => (asI x14).bind fun i18 => .ok (decide (0 ≤ i18)) else .ok false)
def sp_is_moment (K : PySem.W.Frag) : Sp := fun vs H Q _ => ∃ (B : Hp) (v_thing : V) (a_thing : D), Ex B H ∧ vs = [v_thing] ∧ Rep K B v_thing (enc a_thing) ∧ Post (m_is_moment a_thing) (fun r => Ret K [] B H (enc r) Q) (fun _ => False)
abbrev s_is_moment : Stmt := top 11
theorem sc_is_moment : FnScope ["thing"] ["thing"] (defScope s_is_moment) := ⟨rfl, rfl, rfl, by decide +kernel, rfl, by decide +kernel, by decide +kernel⟩
/-! ### plus -/
def m_plus (a_one : (Tp2 Int Int)) (a_other : (Tp2 Int Int)) : Res (Tp2 Int Int) :=
  guardR (CMulW a_one.a a_other.b) <| guardR (CMulW a_other.a a_one.b) <| guardR (CMulW a_one.b a_other.b) <| (m_fraction (enc (((a_one.a * a_other.b) + (a_other.a * a_one.b)) : Int)) (enc ((a_one.b * a_other.b) : Int))).bind fun x37 => .ok x37
def sp_plus (K : PySem.W.Frag) (mg : Str → Option Value) : Sp := fun vs H Q E => ∃ (B : Hp) (v_one : V) (a_one : (Tp2 Int Int)) (v_other : V) (a_other : (Tp2 Int Int)), Ex B H ∧ vs = [v_one, v_other] ∧ Rep K B v_one (enc a_one) ∧ Rep K B v_other (enc a_other) ∧ Post (m_plus a_one a_other) (fun r => Ret K [] B H (enc r) Q) (fun e => Rai mg [] B H e E)
abbrev s_plus : Stmt := top 12
theorem sc_plus : FnScope ["one", "other"] ["one", "other"] (defScope s_plus) := ⟨rfl, rfl, rfl, by decide +kernel, rfl, by decide +kernel, by decide +kernel⟩
/-! ### times -/
def m_times (a_one : (Tp2 Int Int)) (a_other : (Tp2 Int Int)) : Res (Tp2 Int Int) :=
  guardR (CMulW a_one.a a_other.a) <| guardR (CMulW a_one.b a_other.b) <| (m_fraction (enc ((a_one.a * a_other.a) : Int)) (enc ((a_one.b * a_other.b) : Int))).bind fun x25 => .ok x25
def sp_times (K : PySem.W.Frag) (mg : Str → Option Value) : Sp := fun vs H Q E => ∃ (B : Hp) (v_one : V) (a_one : (Tp2 Int Int)) (v_other : V) (a_other : (Tp2 Int Int)), Ex B H ∧ vs = [v_one, v_other] ∧ Rep K B v_one (enc a_one) ∧ Rep K B v_other (enc a_other) ∧ Post (m_times a_one a_other) (fun r => Ret K [] B H (enc r) Q) (fun e => Rai mg [] B H e E)
abbrev s_times : Stmt := top 14
theorem sc_times : FnScope ["one", "other"] ["one", "other"] (defScope s_times) := ⟨rfl, rfl, rfl, by decide +kernel, rfl, by decide +kernel, by decide +kernel⟩
/-! ### less -/
def m_less (a_one : (Tp2 Int Int)) (a_other : (Tp2 Int Int)) : Res Bool :=
  guardR (CMulW a_one.a a_other.b) <| guardR (CMulW a_other.a a_one.b) <| .ok (decide ((a_one.a * a_other.b) < (a_other.a * a_one.b)))
def sp_less (K : PySem.W.Frag) : Sp := fun vs H Q _ => ∃ (B : Hp) (v_one : V) (a_one : (Tp2 Int Int)) (v_other : V) (a_other : (Tp2 Int Int)), Ex B H ∧ vs = [v_one, v_other] ∧ Rep K B v_one (enc a_one) ∧ Rep K B v_other (enc a_other) ∧ Post (m_less a_one a_other) (fun r => Ret K [] B H (enc r) Q) (fun _ => False)
abbrev s_less : Stmt := top 16
theorem sc_less : FnScope ["one", "other"] ["one", "other"] (defScope s_less) := ⟨rfl, rfl, rfl, by decide +kernel, rfl, by decide +kernel, by decide +kernel⟩
/-! ### is_edit -/
def m_is_edit (a_thing : D) : Res Bool :=
  (if (isA "tuple" a_thing) = true then (asT a_thing).bind fun l1 => (if (!decide ((l1.length : Int) = 3)) = true then .ok false else (asT a_thing).bind fun l8 => guardR (l8.length = 3) <| (ixR l8 0).bind fun x16 => (ixR l8 1).bind fun x20 => (ixR l8 2).bind fun x24 => (m_is_fraction x16).bind fun x28 => (if x28 = true then (asD (Tp2 Int Int) x16).bind fun x35 => (m_less (⟨0, 1⟩ : (Tp2 Int Int)) x35).bind fun x38 => (if x38 = true then (m_is_moment x24).bind fun x44 => (if x44 = true then (if (isNonD x20) = true then guardR (okEq x24 (enc (⟨0, 1⟩ : (Tp2 Int Int)))) <| .ok (eqD x24 (enc (⟨0, 1⟩ : (Tp2 Int Int)))) else (m_is_moment x20).bind fun x51 => .ok x51) else .ok false) else .ok false) else .ok false)) else .ok false)
def sp_is_edit (K : PySem.W.Frag) : Sp := fun vs H Q _ => ∃ (B : Hp) (v_thing : V) (a_thing : D), Ex B H ∧ vs = [v_thing] ∧ Rep K B v_thing (enc a_thing) ∧ Post (m_is_edit a_thing) (fun r => Ret K [] B H (enc r) Q) (fun _ => False)
abbrev s_is_edit : Stmt := top 20
theorem sc_is_edit : FnScope ["thing", "span", "start", "rate"] ["thing"] (defScope s_is_edit) := ⟨rfl, rfl, rfl, by decide +kernel, rfl, by decide +kernel, by decide +kernel⟩
/-! ### is_edits -/
def m_is_edits (a_thing : D) : Res Bool :=
  (if (isA "list" a_thing) = true then (asL a_thing).bind fun l1 => (compR (l1) (() : Unit) (fun x11 (a15 : Unit) => (m_is_edit x11).bind fun x27 => .ok (some x27, ()))).bind <| un2 fun acc14 a15 => .ok (acc14.all id) else .ok false)
def sp_is_edits (K : PySem.W.Frag) : Sp := fun vs H Q _ => ∃ (B : Hp) (v_thing : V) (a_thing : D), Ex B H ∧ vs = [v_thing] ∧ Rep K B v_thing (enc a_thing) ∧ Post (m_is_edits a_thing) (fun r => Ret K [] B H (enc r) Q) (fun _ => False)
abbrev s_is_edits : Stmt := top 21
theorem sc_is_edits : FnScope ["thing", "edit"] ["thing"] (defScope s_is_edits) := ⟨rfl, rfl, rfl, by decide +kernel, rfl, by decide +kernel, by decide +kernel⟩
/-! ### sure_edits -/
def m_sure_edits (a_thing : D) : Res Unit :=
  ((m_is_edits a_thing).noErr).bind fun x1 => (if x1 = true then .ok () else .err ⟨"NoEdits", []⟩)
def sp_sure_edits (K : PySem.W.Frag) (mg : Str → Option Value) : Sp := fun vs H Q E => ∃ (B : Hp) (v_thing : V) (a_thing : D), Ex B H ∧ vs = [v_thing] ∧ Rep K B v_thing (enc a_thing) ∧ Post (m_sure_edits a_thing) (fun r => Ret K [] B H (enc r) Q) (fun e => Rai mg [] B H e E)
abbrev s_sure_edits : Stmt := top 22
theorem sc_sure_edits : FnScope ["thing"] ["thing"] (defScope s_sure_edits) := ⟨rfl, rfl, rfl, by decide +kernel, rfl, by decide +kernel, by decide +kernel⟩
/-! ### sure_moment -/
def m_sure_moment (a_thing : D) : Res Unit :=
  ((m_is_moment a_thing).noErr).bind fun x1 => (if x1 = true then .ok () else .err ⟨"NoMoment", []⟩)
def sp_sure_moment (K : PySem.W.Frag) (mg : Str → Option Value) : Sp := fun vs H Q E => ∃ (B : Hp) (v_thing : V) (a_thing : D), Ex B H ∧ vs = [v_thing] ∧ Rep K B v_thing (enc a_thing) ∧ Post (m_sure_moment a_thing) (fun r => Ret K [] B H (enc r) Q) (fun e => Rai mg [] B H e E)
abbrev s_sure_moment : Stmt := top 23
theorem sc_sure_moment : FnScope ["thing"] ["thing"] (defScope s_sure_moment) := ⟨rfl, rfl, rfl, by decide +kernel, rfl, by decide +kernel, by decide +kernel⟩
/-! ### sure_stretch -/
def m_sure_stretch (a_low : D) (a_high : D) : Res Unit :=
  (m_sure_moment a_low).bind fun x1 => (m_sure_moment a_high).bind fun x8 => (asD (Tp2 Int Int) a_low).bind fun x15 => (asD (Tp2 Int Int) a_high).bind fun x18 => ((m_less x15 x18).noErr).bind fun x21 => (if x21 = true then .ok () else .err ⟨"NoMoment", []⟩)
def sp_sure_stretch (K : PySem.W.Frag) (mg : Str → Option Value) : Sp := fun vs H Q E => ∃ (B : Hp) (v_low : V) (a_low : D) (v_high : V) (a_high : D), Ex B H ∧ vs = [v_low, v_high] ∧ Rep K B v_low (enc a_low) ∧ Rep K B v_high (enc a_high) ∧ Post (m_sure_stretch a_low a_high) (fun r => Ret K [] B H (enc r) Q) (fun e => Rai mg [] B H e E)
abbrev s_sure_stretch : Stmt := top 24
theorem sc_sure_stretch : FnScope ["low", "high"] ["low", "high"] (defScope s_sure_stretch) := ⟨rfl, rfl, rfl, by decide +kernel, rfl, by decide +kernel, by decide +kernel⟩
/-! ### led_by -/
def m_led_by (a_edit : (Tp3 (Tp2 Int Int) (Option (Tp2 Int Int)) (Tp2 Int Int))) (a_later : (Tp2 Int Int)) : Res (Option (Tp2 Int Int)) :=
  (if (isNonD (enc a_edit.b)) = true then .ok none else (m_times a_edit.c a_later).bind fun x19 => (someR a_edit.b).bind fun x26 => (m_plus x26 x19).bind fun x29 => .ok (some x29))
def sp_led_by (K : PySem.W.Frag) (mg : Str → Option Value) : Sp := fun vs H Q E => ∃ (B : Hp) (v_edit : V) (a_edit : (Tp3 (Tp2 Int Int) (Option (Tp2 Int Int)) (Tp2 Int Int))) (v_later : V) (a_later : (Tp2 Int Int)), Ex B H ∧ vs = [v_edit, v_later] ∧ Rep K B v_edit (enc a_edit) ∧ Rep K B v_later (enc a_later) ∧ Post (m_led_by a_edit a_later) (fun r => Ret K [] B H (enc r) Q) (fun e => Rai mg [] B H e E)
abbrev s_led_by : Stmt := top 25
theorem sc_led_by : FnScope ["edit", "later"] ["edit", "later"] (defScope s_led_by) := ⟨rfl, rfl, rfl, by decide +kernel, rfl, by decide +kernel, by decide +kernel⟩
/-! ### total__any -/
def m_total__any (a_edits : D) : Res D :=
  (m_sure_edits a_edits).bind fun x1 => .stuck
def sp_total__any (K : PySem.W.Frag) (mg : Str → Option Value) : Sp := fun vs H Q E => ∃ (B : Hp) (v_edits : V) (a_edits : D), Ex B H ∧ vs = [v_edits] ∧ Rep K B v_edits (enc a_edits) ∧ Post (m_total__any a_edits) (fun r => Ret K [] B H (enc r) Q) (fun e => Rai mg [] B H e E)
abbrev s_total__any : Stmt := top 26
theorem sc_total__any : FnScope ["edits", "found", "edit"] ["edits"] (defScope s_total__any) := ⟨rfl, rfl, rfl, by decide +kernel, rfl, by decide +kernel, by decide +kernel⟩
/-! ### total -/
def m_total (a_edits : (List (Tp3 (Tp2 Int Int) (Option (Tp2 Int Int)) (Tp2 Int Int)))) : Res (Tp2 Int Int) :=
  (m_sure_edits (enc a_edits)).bind fun x1 => (forR (a_edits) ((⟨0, 1⟩ : (Tp2 Int Int)) : (Tp2 Int Int)) (fun x21 (a20 : (Tp2 Int Int)) => (m_plus a20 x21.a).bind fun x36 => .ok (.nx x36))).bind (afterR fun a43 => .ok a43)
def sp_total (K : PySem.W.Frag) (mg : Str → Option Value) : Sp := fun vs H Q E => ∃ (B : Hp) (v_edits : V) (a_edits : (List (Tp3 (Tp2 Int Int) (Option (Tp2 Int Int)) (Tp2 Int Int)))), Ex B H ∧ vs = [v_edits] ∧ Rep K B v_edits (enc a_edits) ∧ Post (m_total a_edits) (fun r => Ret K [] B H (enc r) Q) (fun e => Rai mg [] B H e E)
abbrev s_total : Stmt := top 26
theorem sc_total : FnScope ["edits", "found", "edit"] ["edits"] (defScope s_total) := ⟨rfl, rfl, rfl, by decide +kernel, rfl, by decide +kernel, by decide +kernel⟩
/-! ### mapped__any -/
def m_mapped__any (a_edits : D) (a_t : D) : Res D :=
  (m_sure_edits a_edits).bind fun x1 => (m_sure_moment a_t).bind fun x8 => .stuck
def sp_mapped__any (K : PySem.W.Frag) (mg : Str → Option Value) : Sp := fun vs H Q E => ∃ (B : Hp) (v_edits : V) (a_edits : D) (v_t : V) (a_t : D), Ex B H ∧ vs = [v_edits, v_t] ∧ Rep K B v_edits (enc a_edits) ∧ Rep K B v_t (enc a_t) ∧ Post (m_mapped__any a_edits a_t) (fun r => Ret K [] B H (enc r) Q) (fun e => Rai mg [] B H e E)
abbrev s_mapped__any : Stmt := top 27
theorem sc_mapped__any : FnScope ["edits", "t", "later", "edit"] ["edits", "t"] (defScope s_mapped__any) := ⟨rfl, rfl, rfl, by decide +kernel, rfl, by decide +kernel, by decide +kernel⟩
/-! ### goes_on -/
def m_goes_on (a_one : (Tp3 (Tp2 Int Int) (Option (Tp2 Int Int)) (Tp2 Int Int))) (a_other : (Tp3 (Tp2 Int Int) (Option (Tp2 Int Int)) (Tp2 Int Int))) : Res Bool :=
  ((if (isNonD (enc a_one.b)) = true then .ok true else .ok (isNonD (enc a_other.b))) : Res Bool).bind fun b16 => (if b16 = true then (if (isNonD (enc a_one.b)) = true then .ok (isNonD (enc a_other.b)) else .ok false) else guardR (okEq (enc a_one.c) (enc a_other.c)) <| (if (eqD (enc a_one.c) (enc a_other.c)) = true then (m_led_by a_one a_one.a).bind fun x56 => guardR (okEq (enc a_other.b) (enc x56)) <| .ok (eqD (enc a_other.b) (enc x56)) else .ok false))
def sp_goes_on (K : PySem.W.Frag) (mg : Str → Option Value) : Sp := fun vs H Q E => ∃ (B : Hp) (v_one : V) (a_one : (Tp3 (Tp2 Int Int) (Option (Tp2 Int Int)) (Tp2 Int Int))) (v_other : V) (a_other : (Tp3 (Tp2 Int Int) (Option (Tp2 Int Int)) (Tp2 Int Int))), Ex B H ∧ vs = [v_one, v_other] ∧ Rep K B v_one (enc a_one) ∧ Rep K B v_other (enc a_other) ∧ Post (m_goes_on a_one a_other) (fun r => Ret K [] B H (enc r) Q) (fun e => Rai mg [] B H e E)
abbrev s_goes_on : Stmt := top 28
theorem sc_goes_on : FnScope ["one", "other"] ["one", "other"] (defScope s_goes_on) := ⟨rfl, rfl, rfl, by decide +kernel, rfl, by decide +kernel, by decide +kernel⟩
/-! ### tidy__any -/
def m_tidy__any (a_edits : D) : Res D :=
  (m_sure_edits a_edits).bind fun x1 => .stuck
def sp_tidy__any (K : PySem.W.Frag) (mg : Str → Option Value) : Sp := fun vs H Q E => ∃ (B : Hp) (v_edits : V) (a_edits : D), Ex B H ∧ vs = [v_edits] ∧ Rep K B v_edits (enc a_edits) ∧ Post (m_tidy__any a_edits) (fun r => Ret K [] B H (enc r) Q) (fun e => Rai mg [] B H e E)
abbrev s_tidy__any : Stmt := top 29
theorem sc_tidy__any : FnScope ["edits", "found", "edit", "before"] ["edits"] (defScope s_tidy__any) := ⟨rfl, rfl, rfl, by decide +kernel, rfl, by decide +kernel, by decide +kernel⟩
/-! ### tidy -/
def m_tidy (a_edits : (List (Tp3 (Tp2 Int Int) (Option (Tp2 Int Int)) (Tp2 Int Int)))) : Res (List (Tp3 (Tp2 Int Int) (Option (Tp2 Int Int)) (Tp2 Int Int))) :=
  (m_sure_edits (enc a_edits)).bind fun x1 => (forR (a_edits) (([] : List (Tp3 (Tp2 Int Int) (Option (Tp2 Int Int)) (Tp2 Int Int))) : (List (Tp3 (Tp2 Int Int) (Option (Tp2 Int Int)) (Tp2 Int Int)))) (fun x26 (a25 : (List (Tp3 (Tp2 Int Int) (Option (Tp2 Int Int)) (Tp2 Int Int)))) => ((guardR (okEq (enc a25) (enc ([] : List D))) <| (if (!(eqD (enc a25) (enc ([] : List D)))) = true then (ixR a25 (-1)).bind fun x53 => (m_goes_on x53 x26).bind fun x57 => .ok x57 else .ok false) : Res Bool).bind fun b64 => (if b64 = true then (popE a25).bind fun x70 => (m_plus x70.1.a x26.a).bind fun x87 => .ok ((⟨x87, x70.1.b, x70.1.c⟩ : (Tp3 (Tp2 Int Int) (Option (Tp2 Int Int)) (Tp2 Int Int))), x70.2) else .ok (x26, a25)) : Res ((Tp3 (Tp2 Int Int) (Option (Tp2 Int Int)) (Tp2 Int Int)) × (List (Tp3 (Tp2 Int Int) (Option (Tp2 Int Int)) (Tp2 Int Int))))).bind fun a111 => guardR (a111.2.length < 1000000) <| .ok (.nx (a111.2 ++ [a111.1])))).bind (afterR fun a120 => ((guardR (okEq (enc a120) (enc ([] : List D))) <| (if (!(eqD (enc a120) (enc ([] : List D)))) = true then (ixR a120 (-1)).bind fun x145 => .ok (isNonD (enc x145.b)) else .ok false) : Res Bool).bind fun b155 => (if b155 = true then (popE a120).bind fun x161 => .ok x161.2 else .ok a120) : Res ((List (Tp3 (Tp2 Int Int) (Option (Tp2 Int Int)) (Tp2 Int Int))))).bind fun a166 => .ok a166)
def sp_tidy (K : PySem.W.Frag) (mg : Str → Option Value) : Sp := fun vs H Q E => ∃ (B : Hp) (v_edits : V) (a_edits : (List (Tp3 (Tp2 Int Int) (Option (Tp2 Int Int)) (Tp2 Int Int)))), Ex B H ∧ vs = [v_edits] ∧ Rep K B v_edits (enc a_edits) ∧ Post (m_tidy a_edits) (fun r => RetF K [] B H (r.map enc) Q) (fun e => Rai mg [] B H e E)
abbrev s_tidy : Stmt := top 29
theorem sc_tidy : FnScope ["edits", "found", "edit", "before"] ["edits"] (defScope s_tidy) := ⟨rfl, rfl, rfl, by decide +kernel, rfl, by decide +kernel, by decide +kernel⟩
/-! ### over__any -/
def m_over__any (a_outer : D) (a_inner : D) : Res D :=
  (m_sure_edits a_outer).bind fun x1 => (m_sure_edits a_inner).bind fun x8 => .stuck
def sp_over__any (K : PySem.W.Frag) (mg : Str → Option Value) : Sp := fun vs H Q E => ∃ (B : Hp) (v_outer : V) (a_outer : D) (v_inner : V) (a_inner : D), Ex B H ∧ vs = [v_outer, v_inner] ∧ Rep K B v_outer (enc a_outer) ∧ Rep K B v_inner (enc a_inner) ∧ Post (m_over__any a_outer a_inner) (fun r => Ret K [] B H (enc r) Q) (fun e => Rai mg [] B H e E)
abbrev s_over__any : Stmt := top 32
theorem sc_over__any : FnScope ["outer", "inner", "found", "edit"] ["outer", "inner"] (defScope s_over__any) := ⟨rfl, rfl, rfl, by decide +kernel, rfl, by decide +kernel, by decide +kernel⟩
/-! ### part__any -/
def m_part__any (a_edits : D) (a_low : D) (a_high : D) : Res D :=
  (m_sure_edits a_edits).bind fun x1 => (m_sure_stretch a_low a_high).bind fun x8 => .stuck
def sp_part__any (K : PySem.W.Frag) (mg : Str → Option Value) : Sp := fun vs H Q E => ∃ (B : Hp) (v_edits : V) (a_edits : D) (v_low : V) (a_low : D) (v_high : V) (a_high : D), Ex B H ∧ vs = [v_edits, v_low, v_high] ∧ Rep K B v_edits (enc a_edits) ∧ Rep K B v_low (enc a_low) ∧ Rep K B v_high (enc a_high) ∧ Post (m_part__any a_edits a_low a_high) (fun r => Ret K [] B H (enc r) Q) (fun e => Rai mg [] B H e E)
abbrev s_part__any : Stmt := top 33
theorem sc_part__any : FnScope ["edits", "low", "high"] ["edits", "low", "high"] (defScope s_part__any) := ⟨rfl, rfl, rfl, by decide +kernel, rfl, by decide +kernel, by decide +kernel⟩
/-! ### after__any -/
def m_after__any (a_one : D) (a_other : D) : Res D :=
  (m_sure_edits a_one).bind fun x1 => (m_sure_edits a_other).bind fun x8 => .stuck
def sp_after__any (K : PySem.W.Frag) (mg : Str → Option Value) : Sp := fun vs H Q E => ∃ (B : Hp) (v_one : V) (a_one : D) (v_other : V) (a_other : D), Ex B H ∧ vs = [v_one, v_other] ∧ Rep K B v_one (enc a_one) ∧ Rep K B v_other (enc a_other) ∧ Post (m_after__any a_one a_other) (fun r => Ret K [] B H (enc r) Q) (fun e => Rai mg [] B H e E)
abbrev s_after__any : Stmt := top 34
theorem sc_after__any : FnScope ["one", "other"] ["one", "other"] (defScope s_after__any) := ⟨rfl, rfl, rfl, by decide +kernel, rfl, by decide +kernel, by decide +kernel⟩
/-! ### parted__any -/
def m_parted__any (a_one : D) (a_other : D) : Res D :=
  (m_sure_edits a_one).bind fun x1 => (m_sure_edits a_other).bind fun x8 => .stuck
def sp_parted__any (K : PySem.W.Frag) (mg : Str → Option Value) : Sp := fun vs H Q E => ∃ (B : Hp) (v_one : V) (a_one : D) (v_other : V) (a_other : D), Ex B H ∧ vs = [v_one, v_other] ∧ Rep K B v_one (enc a_one) ∧ Rep K B v_other (enc a_other) ∧ Post (m_parted__any a_one a_other) (fun r => Ret K [] B H (enc r) Q) (fun e => Rai mg [] B H e E)
abbrev s_parted__any : Stmt := top 37
theorem sc_parted__any : FnScope ["one", "other", "marks", "k", "border", "middle", "t"] ["one", "other"] (defScope s_parted__any) := ⟨rfl, rfl, rfl, by decide +kernel, rfl, by decide +kernel, by decide +kernel⟩
/-! ### stretches__any -/
def m_stretches__any (a_edits : D) (a_low : D) (a_high : D) : Res D :=
  (m_sure_edits a_edits).bind fun x1 => (m_sure_stretch a_low a_high).bind fun x8 => .stuck
def sp_stretches__any (K : PySem.W.Frag) (mg : Str → Option Value) : Sp := fun vs H Q E => ∃ (B : Hp) (v_edits : V) (a_edits : D) (v_low : V) (a_low : D) (v_high : V) (a_high : D), Ex B H ∧ vs = [v_edits, v_low, v_high] ∧ Rep K B v_edits (enc a_edits) ∧ Rep K B v_low (enc a_low) ∧ Rep K B v_high (enc a_high) ∧ Post (m_stretches__any a_edits a_low a_high) (fun r => Ret K [] B H (enc r) Q) (fun e => Rai mg [] B H e E)
abbrev s_stretches__any : Stmt := top 39
theorem sc_stretches__any : FnScope ["edits", "low", "high", "found", "begin", "edit", "where", "first"] ["edits", "low", "high"] (defScope s_stretches__any) := ⟨rfl, rfl, rfl, by decide +kernel, rfl, by decide +kernel, by decide +kernel⟩
/-! ### _law_cell_at -/
def l_cell_at (a_script : (List Int)) (a_k : Int) : Res Int :=
  (if (decide (a_k < (a_script.length : Int))) = true then (ixR a_script a_k).bind fun x9 => .ok x9 else .ok 0)
def sp__law_cell_at (K : PySem.W.Frag) : Sp := fun vs H Q _ => ∃ (B : Hp) (v_script : V) (a_script : (List Int)) (a_k : Int), Ex B H ∧ vs = [v_script, .int a_k] ∧ Bor K B H [] v_script (a_script.map enc) ∧ Post (l_cell_at a_script a_k) (fun r => Ret K [] B H (enc r) Q) (fun _ => False)
abbrev s__law_cell_at : Stmt := top 41
theorem sc__law_cell_at : FnScope ["_law_script", "_law_k"] ["_law_script", "_law_k"] (defScope s__law_cell_at) := ⟨rfl, rfl, rfl, by decide +kernel, rfl, by decide +kernel, by decide +kernel⟩
/-! ### _law_digit -/
def l_digit (a_state : (List Int)) (a_base : Int) : Res (Int × (List Int)) :=
  ((if (decide ((a_state.length : Int) = 1)) = true then (ixR a_state 0).bind fun x12 => guardR (a_state.length + ([(x12 % 2147483647), 0] : List Int).length ≤ 1000000) <| .ok (a_state ++ ([(x12 % 2147483647), 0] : List Int)) else .ok a_state) : Res ((List Int))).bind fun a26 => (ixR a26 0).bind fun x34 => (if (decide (a_base ≤ x34)) = true then (ixR a26 0).bind fun x42 => guardR (0 < a_base) <| lt ((x42 % a_base) : Int) fun x46 => (ixR a26 0).bind fun x51 => guardR (CDivW x51 a_base) <| (setR a26 0 (x51 / a_base)).bind fun x55 => .ok (x46, x55) else (ixR a26 2).bind fun x64 => (setR a26 2 (x64 + 1)).bind fun x68 => (ixR x68 1).bind fun x77 => (ixR x68 2).bind fun x85 => lt (((((x77 + (7919 * x85)) + 1) * 48271) % 2147483647) : Int) fun x89 => guardR (CMulW x89 ((x89 / 1009) + 69621)) <| lt (((x89 * ((x89 / 1009) + 69621)) % 2147483647) : Int) fun x90 => guardR (CMulW x90 ((x90 / 2003) + 40692)) <| guardR (0 < a_base) <| .ok ((((x90 * ((x90 / 2003) + 40692)) % 2147483399) % a_base), x68))
def sp__law_digit (K : PySem.W.Frag) : Sp := fun vs H Q _ => ∃ (B : Hp) (p_state : Addr) (a_state : (List Int)) (a_base : Int), Ex B H ∧ vs = [.ref p_state, .int a_base] ∧ Mu K B H p_state (a_state.map enc) ∧ Post (l_digit a_state a_base) (fun r => RetM K p_state B H (enc r.1) (r.2.map enc) Q) (fun _ => False)
abbrev s__law_digit : Stmt := top 42
theorem sc__law_digit : FnScope ["_law_state", "_law_base", "_law_found", "_law_number"] ["_law_state", "_law_base"] (defScope s__law_digit) := ⟨rfl, rfl, rfl, by decide +kernel, rfl, by decide +kernel, by decide +kernel⟩
/-! ### _law_shared -/
def l_shared (a_one : Int) (a_other : Int) : Res Int :=
  lt ((absI a_one) : Int) fun x1 => lt ((absI a_other) : Int) fun x2 => (whileR (x2.natAbs + 1) ((x1, x2) : Int × Int) (fun (a12 : Int × Int) => (if (decide (0 < a12.2)) = true then guardR (0 < a12.2) <| lt ((a12.1 % a12.2) : Int) fun x16 => .ok (.nx (a12.2, x16)) else .ok (.bk (a12.1, a12.2))))).bind (afterR fun a17 => .ok a17.1)
def sp__law_shared (K : PySem.W.Frag) : Sp := fun vs H Q _ => ∃ (B : Hp) (a_one : Int) (a_other : Int), Ex B H ∧ vs = [.int a_one, .int a_other] ∧ Post (l_shared a_one a_other) (fun r => Ret K [] B H (enc r) Q) (fun _ => False)
abbrev s__law_shared : Stmt := top 43
theorem sc__law_shared : FnScope ["_law_one", "_law_other"] ["_law_one", "_law_other"] (defScope s__law_shared) := ⟨rfl, rfl, rfl, by decide +kernel, rfl, by decide +kernel, by decide +kernel⟩
/-! ### _law_lowest -/
def l_lowest (a_top : Int) (a_bottom : Int) : Res (Tp2 Int Int) :=
  (l_shared a_top a_bottom).bind fun x1 => guardR (CDivW a_top x1) <| guardR (CDivW a_bottom x1) <| .ok (⟨(a_top / x1), (a_bottom / x1)⟩ : (Tp2 Int Int))
def sp__law_lowest (K : PySem.W.Frag) : Sp := fun vs H Q _ => ∃ (B : Hp) (a_top : Int) (a_bottom : Int), Ex B H ∧ vs = [.int a_top, .int a_bottom] ∧ Post (l_lowest a_top a_bottom) (fun r => Ret K [] B H (enc r) Q) (fun _ => False)
abbrev s__law_lowest : Stmt := top 44
theorem sc__law_lowest : FnScope ["_law_top", "_law_bottom", "_law_share"] ["_law_top", "_law_bottom"] (defScope s__law_lowest) := ⟨rfl, rfl, rfl, by decide +kernel, rfl, by decide +kernel, by decide +kernel⟩
/-! ### _law_plus -/
def l_plus (a_one : (Tp2 Int Int)) (a_other : (Tp2 Int Int)) : Res (Tp2 Int Int) :=
  guardR (CMulW a_one.a a_other.b) <| guardR (CMulW a_other.a a_one.b) <| guardR (CMulW a_one.b a_other.b) <| (l_lowest ((a_one.a * a_other.b) + (a_other.a * a_one.b)) (a_one.b * a_other.b)).bind fun x37 => .ok x37
def sp__law_plus (K : PySem.W.Frag) : Sp := fun vs H Q _ => ∃ (B : Hp) (v_one : V) (a_one : (Tp2 Int Int)) (v_other : V) (a_other : (Tp2 Int Int)), Ex B H ∧ vs = [v_one, v_other] ∧ Rep K B v_one (enc a_one) ∧ Rep K B v_other (enc a_other) ∧ Post (l_plus a_one a_other) (fun r => Ret K [] B H (enc r) Q) (fun _ => False)
abbrev s__law_plus : Stmt := top 45
theorem sc__law_plus : FnScope ["_law_one", "_law_other"] ["_law_one", "_law_other"] (defScope s__law_plus) := ⟨rfl, rfl, rfl, by decide +kernel, rfl, by decide +kernel, by decide +kernel⟩
/-! ### _law_times -/
def l_times (a_one : (Tp2 Int Int)) (a_other : (Tp2 Int Int)) : Res (Tp2 Int Int) :=
  guardR (CMulW a_one.a a_other.a) <| guardR (CMulW a_one.b a_other.b) <| (l_lowest (a_one.a * a_other.a) (a_one.b * a_other.b)).bind fun x25 => .ok x25
def sp__law_times (K : PySem.W.Frag) : Sp := fun vs H Q _ => ∃ (B : Hp) (v_one : V) (a_one : (Tp2 Int Int)) (v_other : V) (a_other : (Tp2 Int Int)), Ex B H ∧ vs = [v_one, v_other] ∧ Rep K B v_one (enc a_one) ∧ Rep K B v_other (enc a_other) ∧ Post (l_times a_one a_other) (fun r => Ret K [] B H (enc r) Q) (fun _ => False)
abbrev s__law_times : Stmt := top 47
theorem sc__law_times : FnScope ["_law_one", "_law_other"] ["_law_one", "_law_other"] (defScope s__law_times) := ⟨rfl, rfl, rfl, by decide +kernel, rfl, by decide +kernel, by decide +kernel⟩
/-! ### _law_amount -/
def l_amount (a_state : (List Int)) : Res ((Tp2 Int Int) × (List Int)) :=
  (l_digit a_state 7).bind fun x1 => (l_digit x1.2 13).bind fun x7 => (l_digit x7.2 4).bind fun x13 => (l_lowest x7.1 (1 + x13.1)).bind fun x19 => (l_digit x13.2 1000000000).bind fun x25 => (l_digit x25.2 1000000).bind fun x31 => (l_lowest ((x25.1 * 1000000) + x31.1) 1000003).bind fun x37 => (l_digit x31.2 1000000000).bind fun x43 => (l_lowest x43.1 997).bind fun x49 => (l_digit x43.2 7).bind fun x55 => (ixR ([x19, x19, (⟨x55.1, 1⟩ : (Tp2 Int Int)), (⟨0, 1⟩ : (Tp2 Int Int)), x19, x49, x37] : List (Tp2 Int Int)) x1.1).bind fun x80 => .ok (x80, x55.2)
def sp__law_amount (K : PySem.W.Frag) : Sp := fun vs H Q _ => ∃ (B : Hp) (p_state : Addr) (a_state : (List Int)), Ex B H ∧ vs = [.ref p_state] ∧ Mu K B H p_state (a_state.map enc) ∧ Post (l_amount a_state) (fun r => RetM K p_state B H (enc r.1) (r.2.map enc) Q) (fun _ => False)
abbrev s__law_amount : Stmt := top 49
theorem sc__law_amount : FnScope ["_law_state", "_law_way", "_law_small", "_law_great", "_law_far"] ["_law_state"] (defScope s__law_amount) := ⟨rfl, rfl, rfl, by decide +kernel, rfl, by decide +kernel, by decide +kernel⟩
/-! ### _law_edit -/
def l_edit (a_state : (List Int)) (a_ahead : (List (Tp3 (Tp2 Int Int) (Option (Tp2 Int Int)) (Tp2 Int Int)))) : Res ((Tp3 (Tp2 Int Int) (Option (Tp2 Int Int)) (Tp2 Int Int)) × (List Int)) :=
  (l_digit a_state 7).bind fun x1 => (l_amount x1.2).bind fun x7 => (l_digit x7.2 3).bind fun x13 => (l_lowest 1 (1 + x13.1)).bind fun x19 => (l_plus x7.1 x19).bind fun x25 => (l_amount x13.2).bind fun x31 => (l_amount x31.2).bind fun x62 => (l_digit x62.2 6).bind fun x73 => (ixR ([(⟨1, 1⟩ : (Tp2 Int Int)), (⟨1, 1⟩ : (Tp2 Int Int)), (⟨0, 1⟩ : (Tp2 Int Int)), (⟨2, 1⟩ : (Tp2 Int Int)), (⟨1, 2⟩ : (Tp2 Int Int)), x62.1] : List (Tp2 Int Int)) x73.1).bind fun x83 => (if (decide (x1.1 = 0)) = true then .ok ((⟨(⟨x25, (), (⟨0, 1⟩ : (Tp2 Int Int))⟩ : (Tp3 (Tp2 Int Int) Unit (Tp2 Int Int))).a, none, (⟨x25, (), (⟨0, 1⟩ : (Tp2 Int Int))⟩ : (Tp3 (Tp2 Int Int) Unit (Tp2 Int Int))).c⟩ : (Tp3 (Tp2 Int Int) (Option (Tp2 Int Int)) (Tp2 Int Int))), x73.2) else ((if (decide (x1.1 < 3)) = true then guardR (okEq (enc a_ahead) (enc ([] : List D))) <| (if (!(eqD (enc a_ahead) (enc ([] : List D)))) = true then (ixR a_ahead (-1)).bind fun x113 => .ok (!(isNonD (enc x113.b))) else .ok false) else .ok false) : Res Bool).bind fun b123 => (if b123 = true then (ixR a_ahead (-1)).bind fun x131 => (l_times x131.c x131.a).bind fun x153 => (someR x131.b).bind fun x159 => (l_plus x159 x153).bind fun x162 => .ok ((⟨(⟨x25, x162, x131.c⟩ : (Tp3 (Tp2 Int Int) (Tp2 Int Int) (Tp2 Int Int))).a, (some ((⟨x25, x162, x131.c⟩ : (Tp3 (Tp2 Int Int) (Tp2 Int Int) (Tp2 Int Int))).b)), (⟨x25, x162, x131.c⟩ : (Tp3 (Tp2 Int Int) (Tp2 Int Int) (Tp2 Int Int))).c⟩ : (Tp3 (Tp2 Int Int) (Option (Tp2 Int Int)) (Tp2 Int Int))), x73.2) else .ok ((⟨(⟨x25, x31.1, x83⟩ : (Tp3 (Tp2 Int Int) (Tp2 Int Int) (Tp2 Int Int))).a, (some ((⟨x25, x31.1, x83⟩ : (Tp3 (Tp2 Int Int) (Tp2 Int Int) (Tp2 Int Int))).b)), (⟨x25, x31.1, x83⟩ : (Tp3 (Tp2 Int Int) (Tp2 Int Int) (Tp2 Int Int))).c⟩ : (Tp3 (Tp2 Int Int) (Option (Tp2 Int Int)) (Tp2 Int Int))), x73.2)))
def sp__law_edit (K : PySem.W.Frag) : Sp := fun vs H Q _ => ∃ (B : Hp) (p_state : Addr) (a_state : (List Int)) (v_ahead : V) (a_ahead : (List (Tp3 (Tp2 Int Int) (Option (Tp2 Int Int)) (Tp2 Int Int)))), Ex B H ∧ vs = [.ref p_state, v_ahead] ∧ Mu K B H p_state (a_state.map enc) ∧ Bor K B H [p_state] v_ahead (a_ahead.map enc) ∧ Post (l_edit a_state a_ahead) (fun r => RetM K p_state B H (enc r.1) (r.2.map enc) Q) (fun _ => False)
abbrev s__law_edit : Stmt := top 50
theorem sc__law_edit : FnScope ["_law_state", "_law_ahead", "_law_way", "_law_span", "_law_start", "_law_rate", "_law_before"] ["_law_state", "_law_ahead"] (defScope s__law_edit) := ⟨rfl, rfl, rfl, by decide +kernel, rfl, by decide +kernel, by decide +kernel⟩
/-! ### _law_edits -/
def l_edits (a_state : (List Int)) (a_few : Int) : Res ((List (Tp3 (Tp2 Int Int) (Option (Tp2 Int Int)) (Tp2 Int Int))) × (List Int)) :=
  (l_digit a_state (a_few + 1)).bind fun x8 => guardR (-(2 ^ 62) ≤ (x8.1 : Int) ∧ (x8.1 : Int) < 2 ^ 62) <| (forR (rngI 0 x8.1) ((([] : List (Tp3 (Tp2 Int Int) (Option (Tp2 Int Int)) (Tp2 Int Int))), x8.2) : (List (Tp3 (Tp2 Int Int) (Option (Tp2 Int Int)) (Tp2 Int Int))) × (List Int)) (fun x23 (a22 : (List (Tp3 (Tp2 Int Int) (Option (Tp2 Int Int)) (Tp2 Int Int))) × (List Int)) => (l_edit a22.2 a22.1).bind fun x30 => guardR (a22.1.length < 1000000) <| .ok (.nx ((a22.1 ++ [x30.1]), x30.2)))).bind (afterR fun a38 => .ok (a38.1, a38.2))
def sp__law_edits (K : PySem.W.Frag) : Sp := fun vs H Q _ => ∃ (B : Hp) (p_state : Addr) (a_state : (List Int)) (a_few : Int), Ex B H ∧ vs = [.ref p_state, .int a_few] ∧ Mu K B H p_state (a_state.map enc) ∧ Post (l_edits a_state a_few) (fun r => RetM K p_state B H (enc r.1) (r.2.map enc) Q) (fun _ => False)
abbrev s__law_edits : Stmt := top 51
theorem sc__law_edits : FnScope ["_law_state", "_law_few", "_law_found", "_law_k"] ["_law_state", "_law_few"] (defScope s__law_edits) := ⟨rfl, rfl, rfl, by decide +kernel, rfl, by decide +kernel, by decide +kernel⟩
/-! ### _law_odd_edit -/
def l_odd_edit (a_state : (List Int)) (a_edit_here : (Tp3 (Tp2 Int Int) (Option (Tp2 Int Int)) (Tp2 Int Int))) : Res (D × (List Int)) :=
  (ixR ([(enc a_edit_here.b), (enc (⟨1, 1⟩ : (Tp2 Int Int)))] : List D) (b2z (isNonD (enc a_edit_here.b)))).bind fun x25 => guardR (([(enc ()), (enc (5 : Int)), (.tup [] : D), (enc (⟨a_edit_here.a, a_edit_here.b⟩ : (Tp2 (Tp2 Int Int) (Option (Tp2 Int Int))))), (enc (⟨a_edit_here.a, a_edit_here.b, a_edit_here.c, a_edit_here.c⟩ : (Tp4 (Tp2 Int Int) (Option (Tp2 Int Int)) (Tp2 Int Int) (Tp2 Int Int)))), (enc ([(enc a_edit_here.a), (enc a_edit_here.b), (enc a_edit_here.c)] : List D)), (enc ("edit" : Str)), (enc true), (.dic [] : D)] : List D).length + ([(enc (⟨(⟨0, 1⟩ : (Tp2 Int Int)), a_edit_here.b, a_edit_here.c⟩ : (Tp3 (Tp2 Int Int) (Option (Tp2 Int Int)) (Tp2 Int Int)))), (enc (⟨(⟨(-1), 2⟩ : (Tp2 Int Int)), a_edit_here.b, a_edit_here.c⟩ : (Tp3 (Tp2 Int Int) (Option (Tp2 Int Int)) (Tp2 Int Int)))), (enc (⟨(⟨2, 2⟩ : (Tp2 Int Int)), a_edit_here.b, a_edit_here.c⟩ : (Tp3 (Tp2 Int Int) (Option (Tp2 Int Int)) (Tp2 Int Int)))), (enc (⟨1, a_edit_here.b, a_edit_here.c⟩ : (Tp3 Int (Option (Tp2 Int Int)) (Tp2 Int Int))))] : List D).length ≤ 1000000) <| guardR ((([(enc ()), (enc (5 : Int)), (.tup [] : D), (enc (⟨a_edit_here.a, a_edit_here.b⟩ : (Tp2 (Tp2 Int Int) (Option (Tp2 Int Int))))), (enc (⟨a_edit_here.a, a_edit_here.b, a_edit_here.c, a_edit_here.c⟩ : (Tp4 (Tp2 Int Int) (Option (Tp2 Int Int)) (Tp2 Int Int) (Tp2 Int Int)))), (enc ([(enc a_edit_here.a), (enc a_edit_here.b), (enc a_edit_here.c)] : List D)), (enc ("edit" : Str)), (enc true), (.dic [] : D)] : List D) ++ ([(enc (⟨(⟨0, 1⟩ : (Tp2 Int Int)), a_edit_here.b, a_edit_here.c⟩ : (Tp3 (Tp2 Int Int) (Option (Tp2 Int Int)) (Tp2 Int Int)))), (enc (⟨(⟨(-1), 2⟩ : (Tp2 Int Int)), a_edit_here.b, a_edit_here.c⟩ : (Tp3 (Tp2 Int Int) (Option (Tp2 Int Int)) (Tp2 Int Int)))), (enc (⟨(⟨2, 2⟩ : (Tp2 Int Int)), a_edit_here.b, a_edit_here.c⟩ : (Tp3 (Tp2 Int Int) (Option (Tp2 Int Int)) (Tp2 Int Int)))), (enc (⟨1, a_edit_here.b, a_edit_here.c⟩ : (Tp3 Int (Option (Tp2 Int Int)) (Tp2 Int Int))))] : List D)).length + ([(enc (⟨(⟨true, 1⟩ : (Tp2 Bool Int)), a_edit_here.b, a_edit_here.c⟩ : (Tp3 (Tp2 Bool Int) (Option (Tp2 Int Int)) (Tp2 Int Int)))), (enc (⟨(), a_edit_here.b, a_edit_here.c⟩ : (Tp3 Unit (Option (Tp2 Int Int)) (Tp2 Int Int)))), (enc (⟨a_edit_here.a, (⟨(-1), 1⟩ : (Tp2 Int Int)), (⟨1, 1⟩ : (Tp2 Int Int))⟩ : (Tp3 (Tp2 Int Int) (Tp2 Int Int) (Tp2 Int Int)))), (enc (⟨a_edit_here.a, (⟨2, 4⟩ : (Tp2 Int Int)), (⟨1, 1⟩ : (Tp2 Int Int))⟩ : (Tp3 (Tp2 Int Int) (Tp2 Int Int) (Tp2 Int Int))))] : List D).length ≤ 1000000) <| guardR (((([(enc ()), (enc (5 : Int)), (.tup [] : D), (enc (⟨a_edit_here.a, a_edit_here.b⟩ : (Tp2 (Tp2 Int Int) (Option (Tp2 Int Int))))), (enc (⟨a_edit_here.a, a_edit_here.b, a_edit_here.c, a_edit_here.c⟩ : (Tp4 (Tp2 Int Int) (Option (Tp2 Int Int)) (Tp2 Int Int) (Tp2 Int Int)))), (enc ([(enc a_edit_here.a), (enc a_edit_here.b), (enc a_edit_here.c)] : List D)), (enc ("edit" : Str)), (enc true), (.dic [] : D)] : List D) ++ ([(enc (⟨(⟨0, 1⟩ : (Tp2 Int Int)), a_edit_here.b, a_edit_here.c⟩ : (Tp3 (Tp2 Int Int) (Option (Tp2 Int Int)) (Tp2 Int Int)))), (enc (⟨(⟨(-1), 2⟩ : (Tp2 Int Int)), a_edit_here.b, a_edit_here.c⟩ : (Tp3 (Tp2 Int Int) (Option (Tp2 Int Int)) (Tp2 Int Int)))), (enc (⟨(⟨2, 2⟩ : (Tp2 Int Int)), a_edit_here.b, a_edit_here.c⟩ : (Tp3 (Tp2 Int Int) (Option (Tp2 Int Int)) (Tp2 Int Int)))), (enc (⟨1, a_edit_here.b, a_edit_here.c⟩ : (Tp3 Int (Option (Tp2 Int Int)) (Tp2 Int Int))))] : List D)) ++ ([(enc (⟨(⟨true, 1⟩ : (Tp2 Bool Int)), a_edit_here.b, a_edit_here.c⟩ : (Tp3 (Tp2 Bool Int) (Option (Tp2 Int Int)) (Tp2 Int Int)))), (enc (⟨(), a_edit_here.b, a_edit_here.c⟩ : (Tp3 Unit (Option (Tp2 Int Int)) (Tp2 Int Int)))), (enc (⟨a_edit_here.a, (⟨(-1), 1⟩ : (Tp2 Int Int)), (⟨1, 1⟩ : (Tp2 Int Int))⟩ : (Tp3 (Tp2 Int Int) (Tp2 Int Int) (Tp2 Int Int)))), (enc (⟨a_edit_here.a, (⟨2, 4⟩ : (Tp2 Int Int)), (⟨1, 1⟩ : (Tp2 Int Int))⟩ : (Tp3 (Tp2 Int Int) (Tp2 Int Int) (Tp2 Int Int))))] : List D)).length + ([(enc (⟨a_edit_here.a, 0, (⟨1, 1⟩ : (Tp2 Int Int))⟩ : (Tp3 (Tp2 Int Int) Int (Tp2 Int Int)))), (enc (⟨a_edit_here.a, false, (⟨0, 1⟩ : (Tp2 Int Int))⟩ : (Tp3 (Tp2 Int Int) Bool (Tp2 Int Int)))), (enc (⟨a_edit_here.a, ("0" : Str), (⟨1, 1⟩ : (Tp2 Int Int))⟩ : (Tp3 (Tp2 Int Int) Str (Tp2 Int Int)))), (enc (⟨a_edit_here.a, x25, (⟨(-1), 2⟩ : (Tp2 Int Int))⟩ : (Tp3 (Tp2 Int Int) D (Tp2 Int Int))))] : List D).length ≤ 1000000) <| guardR ((((([(enc ()), (enc (5 : Int)), (.tup [] : D), (enc (⟨a_edit_here.a, a_edit_here.b⟩ : (Tp2 (Tp2 Int Int) (Option (Tp2 Int Int))))), (enc (⟨a_edit_here.a, a_edit_here.b, a_edit_here.c, a_edit_here.c⟩ : (Tp4 (Tp2 Int Int) (Option (Tp2 Int Int)) (Tp2 Int Int) (Tp2 Int Int)))), (enc ([(enc a_edit_here.a), (enc a_edit_here.b), (enc a_edit_here.c)] : List D)), (enc ("edit" : Str)), (enc true), (.dic [] : D)] : List D) ++ ([(enc (⟨(⟨0, 1⟩ : (Tp2 Int Int)), a_edit_here.b, a_edit_here.c⟩ : (Tp3 (Tp2 Int Int) (Option (Tp2 Int Int)) (Tp2 Int Int)))), (enc (⟨(⟨(-1), 2⟩ : (Tp2 Int Int)), a_edit_here.b, a_edit_here.c⟩ : (Tp3 (Tp2 Int Int) (Option (Tp2 Int Int)) (Tp2 Int Int)))), (enc (⟨(⟨2, 2⟩ : (Tp2 Int Int)), a_edit_here.b, a_edit_here.c⟩ : (Tp3 (Tp2 Int Int) (Option (Tp2 Int Int)) (Tp2 Int Int)))), (enc (⟨1, a_edit_here.b, a_edit_here.c⟩ : (Tp3 Int (Option (Tp2 Int Int)) (Tp2 Int Int))))] : List D)) ++ ([(enc (⟨(⟨true, 1⟩ : (Tp2 Bool Int)), a_edit_here.b, a_edit_here.c⟩ : (Tp3 (Tp2 Bool Int) (Option (Tp2 Int Int)) (Tp2 Int Int)))), (enc (⟨(), a_edit_here.b, a_edit_here.c⟩ : (Tp3 Unit (Option (Tp2 Int Int)) (Tp2 Int Int)))), (enc (⟨a_edit_here.a, (⟨(-1), 1⟩ : (Tp2 Int Int)), (⟨1, 1⟩ : (Tp2 Int Int))⟩ : (Tp3 (Tp2 Int Int) (Tp2 Int Int) (Tp2 Int Int)))), (enc (⟨a_edit_here.a, (⟨2, 4⟩ : (Tp2 Int Int)), (⟨1, 1⟩ : (Tp2 Int Int))⟩ : (Tp3 (Tp2 Int Int) (Tp2 Int Int) (Tp2 Int Int))))] : List D)) ++ ([(enc (⟨a_edit_here.a, 0, (⟨1, 1⟩ : (Tp2 Int Int))⟩ : (Tp3 (Tp2 Int Int) Int (Tp2 Int Int)))), (enc (⟨a_edit_here.a, false, (⟨0, 1⟩ : (Tp2 Int Int))⟩ : (Tp3 (Tp2 Int Int) Bool (Tp2 Int Int)))), (enc (⟨a_edit_here.a, ("0" : Str), (⟨1, 1⟩ : (Tp2 Int Int))⟩ : (Tp3 (Tp2 Int Int) Str (Tp2 Int Int)))), (enc (⟨a_edit_here.a, x25, (⟨(-1), 2⟩ : (Tp2 Int Int))⟩ : (Tp3 (Tp2 Int Int) D (Tp2 Int Int))))] : List D)).length + ([(enc (⟨a_edit_here.a, x25, ()⟩ : (Tp3 (Tp2 Int Int) D Unit))), (enc (⟨a_edit_here.a, x25, (⟨0, 2⟩ : (Tp2 Int Int))⟩ : (Tp3 (Tp2 Int Int) D (Tp2 Int Int)))), (enc (⟨a_edit_here.a, x25, 1⟩ : (Tp3 (Tp2 Int Int) D Int))), (enc (⟨a_edit_here.a, (), (⟨1, 1⟩ : (Tp2 Int Int))⟩ : (Tp3 (Tp2 Int Int) Unit (Tp2 Int Int)))), (enc (⟨a_edit_here.a, (), ()⟩ : (Tp3 (Tp2 Int Int) Unit Unit)))] : List D).length ≤ 1000000) <| guardR (((((([(enc ()), (enc (5 : Int)), (.tup [] : D), (enc (⟨a_edit_here.a, a_edit_here.b⟩ : (Tp2 (Tp2 Int Int) (Option (Tp2 Int Int))))), (enc (⟨a_edit_here.a, a_edit_here.b, a_edit_here.c, a_edit_here.c⟩ : (Tp4 (Tp2 Int Int) (Option (Tp2 Int Int)) (Tp2 Int Int) (Tp2 Int Int)))), (enc ([(enc a_edit_here.a), (enc a_edit_here.b), (enc a_edit_here.c)] : List D)), (enc ("edit" : Str)), (enc true), (.dic [] : D)] : List D) ++ ([(enc (⟨(⟨0, 1⟩ : (Tp2 Int Int)), a_edit_here.b, a_edit_here.c⟩ : (Tp3 (Tp2 Int Int) (Option (Tp2 Int Int)) (Tp2 Int Int)))), (enc (⟨(⟨(-1), 2⟩ : (Tp2 Int Int)), a_edit_here.b, a_edit_here.c⟩ : (Tp3 (Tp2 Int Int) (Option (Tp2 Int Int)) (Tp2 Int Int)))), (enc (⟨(⟨2, 2⟩ : (Tp2 Int Int)), a_edit_here.b, a_edit_here.c⟩ : (Tp3 (Tp2 Int Int) (Option (Tp2 Int Int)) (Tp2 Int Int)))), (enc (⟨1, a_edit_here.b, a_edit_here.c⟩ : (Tp3 Int (Option (Tp2 Int Int)) (Tp2 Int Int))))] : List D)) ++ ([(enc (⟨(⟨true, 1⟩ : (Tp2 Bool Int)), a_edit_here.b, a_edit_here.c⟩ : (Tp3 (Tp2 Bool Int) (Option (Tp2 Int Int)) (Tp2 Int Int)))), (enc (⟨(), a_edit_here.b, a_edit_here.c⟩ : (Tp3 Unit (Option (Tp2 Int Int)) (Tp2 Int Int)))), (enc (⟨a_edit_here.a, (⟨(-1), 1⟩ : (Tp2 Int Int)), (⟨1, 1⟩ : (Tp2 Int Int))⟩ : (Tp3 (Tp2 Int Int) (Tp2 Int Int) (Tp2 Int Int)))), (enc (⟨a_edit_here.a, (⟨2, 4⟩ : (Tp2 Int Int)), (⟨1, 1⟩ : (Tp2 Int Int))⟩ : (Tp3 (Tp2 Int Int) (Tp2 Int Int) (Tp2 Int Int))))] : List D)) ++ ([(enc (⟨a_edit_here.a, 0, (⟨1, 1⟩ : (Tp2 Int Int))⟩ : (Tp3 (Tp2 Int Int) Int (Tp2 Int Int)))), (enc (⟨a_edit_here.a, false, (⟨0, 1⟩ : (Tp2 Int Int))⟩ : (Tp3 (Tp2 Int Int) Bool (Tp2 Int Int)))), (enc (⟨a_edit_here.a, ("0" : Str), (⟨1, 1⟩ : (Tp2 Int Int))⟩ : (Tp3 (Tp2 Int Int) Str (Tp2 Int Int)))), (enc (⟨a_edit_here.a, x25, (⟨(-1), 2⟩ : (Tp2 Int Int))⟩ : (Tp3 (Tp2 Int Int) D (Tp2 Int Int))))] : List D)) ++ ([(enc (⟨a_edit_here.a, x25, ()⟩ : (Tp3 (Tp2 Int Int) D Unit))), (enc (⟨a_edit_here.a, x25, (⟨0, 2⟩ : (Tp2 Int Int))⟩ : (Tp3 (Tp2 Int Int) D (Tp2 Int Int)))), (enc (⟨a_edit_here.a, x25, 1⟩ : (Tp3 (Tp2 Int Int) D Int))), (enc (⟨a_edit_here.a, (), (⟨1, 1⟩ : (Tp2 Int Int))⟩ : (Tp3 (Tp2 Int Int) Unit (Tp2 Int Int)))), (enc (⟨a_edit_here.a, (), ()⟩ : (Tp3 (Tp2 Int Int) Unit Unit)))] : List D)).length + ([(enc (⟨a_edit_here.a, x25, (⟨1, 0⟩ : (Tp2 Int Int))⟩ : (Tp3 (Tp2 Int Int) D (Tp2 Int Int)))), (enc (⟨a_edit_here.a, (⟨1, (-1)⟩ : (Tp2 Int Int)), (⟨1, 1⟩ : (Tp2 Int Int))⟩ : (Tp3 (Tp2 Int Int) (Tp2 Int Int) (Tp2 Int Int)))), (enc (⟨a_edit_here.a, (), 0⟩ : (Tp3 (Tp2 Int Int) Unit Int))), (enc (⟨([a_edit_here.a.a, a_edit_here.a.b] : List Int), x25, (⟨1, 1⟩ : (Tp2 Int Int))⟩ : (Tp3 (List Int) D (Tp2 Int Int))))] : List D).length ≤ 1000000) <| (l_digit a_state ((((((([(enc ()), (enc (5 : Int)), (.tup [] : D), (enc (⟨a_edit_here.a, a_edit_here.b⟩ : (Tp2 (Tp2 Int Int) (Option (Tp2 Int Int))))), (enc (⟨a_edit_here.a, a_edit_here.b, a_edit_here.c, a_edit_here.c⟩ : (Tp4 (Tp2 Int Int) (Option (Tp2 Int Int)) (Tp2 Int Int) (Tp2 Int Int)))), (enc ([(enc a_edit_here.a), (enc a_edit_here.b), (enc a_edit_here.c)] : List D)), (enc ("edit" : Str)), (enc true), (.dic [] : D)] : List D) ++ ([(enc (⟨(⟨0, 1⟩ : (Tp2 Int Int)), a_edit_here.b, a_edit_here.c⟩ : (Tp3 (Tp2 Int Int) (Option (Tp2 Int Int)) (Tp2 Int Int)))), (enc (⟨(⟨(-1), 2⟩ : (Tp2 Int Int)), a_edit_here.b, a_edit_here.c⟩ : (Tp3 (Tp2 Int Int) (Option (Tp2 Int Int)) (Tp2 Int Int)))), (enc (⟨(⟨2, 2⟩ : (Tp2 Int Int)), a_edit_here.b, a_edit_here.c⟩ : (Tp3 (Tp2 Int Int) (Option (Tp2 Int Int)) (Tp2 Int Int)))), (enc (⟨1, a_edit_here.b, a_edit_here.c⟩ : (Tp3 Int (Option (Tp2 Int Int)) (Tp2 Int Int))))] : List D)) ++ ([(enc (⟨(⟨true, 1⟩ : (Tp2 Bool Int)), a_edit_here.b, a_edit_here.c⟩ : (Tp3 (Tp2 Bool Int) (Option (Tp2 Int Int)) (Tp2 Int Int)))), (enc (⟨(), a_edit_here.b, a_edit_here.c⟩ : (Tp3 Unit (Option (Tp2 Int Int)) (Tp2 Int Int)))), (enc (⟨a_edit_here.a, (⟨(-1), 1⟩ : (Tp2 Int Int)), (⟨1, 1⟩ : (Tp2 Int Int))⟩ : (Tp3 (Tp2 Int Int) (Tp2 Int Int) (Tp2 Int Int)))), (enc (⟨a_edit_here.a, (⟨2, 4⟩ : (Tp2 Int Int)), (⟨1, 1⟩ : (Tp2 Int Int))⟩ : (Tp3 (Tp2 Int Int) (Tp2 Int Int) (Tp2 Int Int))))] : List D)) ++ ([(enc (⟨a_edit_here.a, 0, (⟨1, 1⟩ : (Tp2 Int Int))⟩ : (Tp3 (Tp2 Int Int) Int (Tp2 Int Int)))), (enc (⟨a_edit_here.a, false, (⟨0, 1⟩ : (Tp2 Int Int))⟩ : (Tp3 (Tp2 Int Int) Bool (Tp2 Int Int)))), (enc (⟨a_edit_here.a, ("0" : Str), (⟨1, 1⟩ : (Tp2 Int Int))⟩ : (Tp3 (Tp2 Int Int) Str (Tp2 Int Int)))), (enc (⟨a_edit_here.a, x25, (⟨(-1), 2⟩ : (Tp2 Int Int))⟩ : (Tp3 (Tp2 Int Int) D (Tp2 Int Int))))] : List D)) ++ ([(enc (⟨a_edit_here.a, x25, ()⟩ : (Tp3 (Tp2 Int Int) D Unit))), (enc (⟨a_edit_here.a, x25, (⟨0, 2⟩ : (Tp2 Int Int))⟩ : (Tp3 (Tp2 Int Int) D (Tp2 Int Int)))), (enc (⟨a_edit_here.a, x25, 1⟩ : (Tp3 (Tp2 Int Int) D Int))), (enc (⟨a_edit_here.a, (), (⟨1, 1⟩ : (Tp2 Int Int))⟩ : (Tp3 (Tp2 Int Int) Unit (Tp2 Int Int)))), (enc (⟨a_edit_here.a, (), ()⟩ : (Tp3 (Tp2 Int Int) Unit Unit)))] : List D)) ++ ([(enc (⟨a_edit_here.a, x25, (⟨1, 0⟩ : (Tp2 Int Int))⟩ : (Tp3 (Tp2 Int Int) D (Tp2 Int Int)))), (enc (⟨a_edit_here.a, (⟨1, (-1)⟩ : (Tp2 Int Int)), (⟨1, 1⟩ : (Tp2 Int Int))⟩ : (Tp3 (Tp2 Int Int) (Tp2 Int Int) (Tp2 Int Int)))), (enc (⟨a_edit_here.a, (), 0⟩ : (Tp3 (Tp2 Int Int) Unit Int))), (enc (⟨([a_edit_here.a.a, a_edit_here.a.b] : List Int), x25, (⟨1, 1⟩ : (Tp2 Int Int))⟩ : (Tp3 (List Int) D (Tp2 Int Int))))] : List D)).length : Int)).bind fun x357 => (ixR (((((([(enc ()), (enc (5 : Int)), (.tup [] : D), (enc (⟨a_edit_here.a, a_edit_here.b⟩ : (Tp2 (Tp2 Int Int) (Option (Tp2 Int Int))))), (enc (⟨a_edit_here.a, a_edit_here.b, a_edit_here.c, a_edit_here.c⟩ : (Tp4 (Tp2 Int Int) (Option (Tp2 Int Int)) (Tp2 Int Int) (Tp2 Int Int)))), (enc ([(enc a_edit_here.a), (enc a_edit_here.b), (enc a_edit_here.c)] : List D)), (enc ("edit" : Str)), (enc true), (.dic [] : D)] : List D) ++ ([(enc (⟨(⟨0, 1⟩ : (Tp2 Int Int)), a_edit_here.b, a_edit_here.c⟩ : (Tp3 (Tp2 Int Int) (Option (Tp2 Int Int)) (Tp2 Int Int)))), (enc (⟨(⟨(-1), 2⟩ : (Tp2 Int Int)), a_edit_here.b, a_edit_here.c⟩ : (Tp3 (Tp2 Int Int) (Option (Tp2 Int Int)) (Tp2 Int Int)))), (enc (⟨(⟨2, 2⟩ : (Tp2 Int Int)), a_edit_here.b, a_edit_here.c⟩ : (Tp3 (Tp2 Int Int) (Option (Tp2 Int Int)) (Tp2 Int Int)))), (enc (⟨1, a_edit_here.b, a_edit_here.c⟩ : (Tp3 Int (Option (Tp2 Int Int)) (Tp2 Int Int))))] : List D)) ++ ([(enc (⟨(⟨true, 1⟩ : (Tp2 Bool Int)), a_edit_here.b, a_edit_here.c⟩ : (Tp3 (Tp2 Bool Int) (Option (Tp2 Int Int)) (Tp2 Int Int)))), (enc (⟨(), a_edit_here.b, a_edit_here.c⟩ : (Tp3 Unit (Option (Tp2 Int Int)) (Tp2 Int Int)))), (enc (⟨a_edit_here.a, (⟨(-1), 1⟩ : (Tp2 Int Int)), (⟨1, 1⟩ : (Tp2 Int Int))⟩ : (Tp3 (Tp2 Int Int) (Tp2 Int Int) (Tp2 Int Int)))), (enc (⟨a_edit_here.a, (⟨2, 4⟩ : (Tp2 Int Int)), (⟨1, 1⟩ : (Tp2 Int Int))⟩ : (Tp3 (Tp2 Int Int) (Tp2 Int Int) (Tp2 Int Int))))] : List D)) ++ ([(enc (⟨a_edit_here.a, 0, (⟨1, 1⟩ : (Tp2 Int Int))⟩ : (Tp3 (Tp2 Int Int) Int (Tp2 Int Int)))), (enc (⟨a_edit_here.a, false, (⟨0, 1⟩ : (Tp2 Int Int))⟩ : (Tp3 (Tp2 Int Int) Bool (Tp2 Int Int)))), (enc (⟨a_edit_here.a, ("0" : Str), (⟨1, 1⟩ : (Tp2 Int Int))⟩ : (Tp3 (Tp2 Int Int) Str (Tp2 Int Int)))), (enc (⟨a_edit_here.a, x25, (⟨(-1), 2⟩ : (Tp2 Int Int))⟩ : (Tp3 (Tp2 Int Int) D (Tp2 Int Int))))] : List D)) ++ ([(enc (⟨a_edit_here.a, x25, ()⟩ : (Tp3 (Tp2 Int Int) D Unit))), (enc (⟨a_edit_here.a, x25, (⟨0, 2⟩ : (Tp2 Int Int))⟩ : (Tp3 (Tp2 Int Int) D (Tp2 Int Int)))), (enc (⟨a_edit_here.a, x25, 1⟩ : (Tp3 (Tp2 Int Int) D Int))), (enc (⟨a_edit_here.a, (), (⟨1, 1⟩ : (Tp2 Int Int))⟩ : (Tp3 (Tp2 Int Int) Unit (Tp2 Int Int)))), (enc (⟨a_edit_here.a, (), ()⟩ : (Tp3 (Tp2 Int Int) Unit Unit)))] : List D)) ++ ([(enc (⟨a_edit_here.a, x25, (⟨1, 0⟩ : (Tp2 Int Int))⟩ : (Tp3 (Tp2 Int Int) D (Tp2 Int Int)))), (enc (⟨a_edit_here.a, (⟨1, (-1)⟩ : (Tp2 Int Int)), (⟨1, 1⟩ : (Tp2 Int Int))⟩ : (Tp3 (Tp2 Int Int) (Tp2 Int Int) (Tp2 Int Int)))), (enc (⟨a_edit_here.a, (), 0⟩ : (Tp3 (Tp2 Int Int) Unit Int))), (enc (⟨([a_edit_here.a.a, a_edit_here.a.b] : List Int), x25, (⟨1, 1⟩ : (Tp2 Int Int))⟩ : (Tp3 (List Int) D (Tp2 Int Int))))] : List D)) x357.1).bind fun x367 => .ok (x367, x357.2)
def sp__law_odd_edit (K : PySem.W.Frag) : Sp := fun vs H Q _ => ∃ (B : Hp) (p_state : Addr) (a_state : (List Int)) (v_edit_here : V) (a_edit_here : (Tp3 (Tp2 Int Int) (Option (Tp2 Int Int)) (Tp2 Int Int))), Ex B H ∧ vs = [.ref p_state, v_edit_here] ∧ Mu K B H p_state (a_state.map enc) ∧ Rep K B v_edit_here (enc a_edit_here) ∧ Post (l_odd_edit a_state a_edit_here) (fun r => RetM K p_state B H (enc r.1) (r.2.map enc) Q) (fun _ => False)
abbrev s__law_odd_edit : Stmt := top 53
theorem sc__law_odd_edit : FnScope ["_law_state", "_law_edit_here", "_law_span", "_law_start", "_law_rate", "_law_good", "_law_some"] ["_law_state", "_law_edit_here"] (defScope s__law_odd_edit) := ⟨rfl, rfl, rfl, by decide +kernel, rfl, by decide +kernel, by decide +kernel⟩
/-! ### _law_bad_edits -/
def l_bad_edits (a_state : (List Int)) (a_edits_here : (List (Tp3 (Tp2 Int Int) (Option (Tp2 Int Int)) (Tp2 Int Int)))) : Res (D × (List Int)) :=
  (l_digit a_state 3).bind fun x1 => (l_digit x1.2 ((a_edits_here.length : Int) + 1)).bind fun x11 => guardR (a_edits_here.length + ([(⟨(⟨(⟨1, 1⟩ : (Tp2 Int Int)), (⟨0, 1⟩ : (Tp2 Int Int)), (⟨1, 1⟩ : (Tp2 Int Int))⟩ : (Tp3 (Tp2 Int Int) (Tp2 Int Int) (Tp2 Int Int))).a, (some ((⟨(⟨1, 1⟩ : (Tp2 Int Int)), (⟨0, 1⟩ : (Tp2 Int Int)), (⟨1, 1⟩ : (Tp2 Int Int))⟩ : (Tp3 (Tp2 Int Int) (Tp2 Int Int) (Tp2 Int Int))).b)), (⟨(⟨1, 1⟩ : (Tp2 Int Int)), (⟨0, 1⟩ : (Tp2 Int Int)), (⟨1, 1⟩ : (Tp2 Int Int))⟩ : (Tp3 (Tp2 Int Int) (Tp2 Int Int) (Tp2 Int Int))).c⟩ : (Tp3 (Tp2 Int Int) (Option (Tp2 Int Int)) (Tp2 Int Int)))] : List (Tp3 (Tp2 Int Int) (Option (Tp2 Int Int)) (Tp2 Int Int))).length ≤ 1000000) <| (ixR (a_edits_here ++ ([(⟨(⟨(⟨1, 1⟩ : (Tp2 Int Int)), (⟨0, 1⟩ : (Tp2 Int Int)), (⟨1, 1⟩ : (Tp2 Int Int))⟩ : (Tp3 (Tp2 Int Int) (Tp2 Int Int) (Tp2 Int Int))).a, (some ((⟨(⟨1, 1⟩ : (Tp2 Int Int)), (⟨0, 1⟩ : (Tp2 Int Int)), (⟨1, 1⟩ : (Tp2 Int Int))⟩ : (Tp3 (Tp2 Int Int) (Tp2 Int Int) (Tp2 Int Int))).b)), (⟨(⟨1, 1⟩ : (Tp2 Int Int)), (⟨0, 1⟩ : (Tp2 Int Int)), (⟨1, 1⟩ : (Tp2 Int Int))⟩ : (Tp3 (Tp2 Int Int) (Tp2 Int Int) (Tp2 Int Int))).c⟩ : (Tp3 (Tp2 Int Int) (Option (Tp2 Int Int)) (Tp2 Int Int)))] : List (Tp3 (Tp2 Int Int) (Option (Tp2 Int Int)) (Tp2 Int Int)))) x11.1).bind fun x59 => (l_odd_edit x11.2 x59).bind fun x63 => (if (decide (x1.1 = 0)) = true then (compR (rngI 0 2) (() : Unit) (fun x92 (a96 : Unit) => .ok (some (⟨x92, x92⟩ : (Tp2 Int Int)), ()))).bind <| un2 fun acc95 a96 => (l_digit x63.2 9).bind fun x136 => (ixR ([(enc ()), (enc (5 : Int)), (enc true), (enc ("" : Str)), (enc ("edits" : Str)), (.tup (a_edits_here.map enc) : D), (.dic [] : D), (enc (⟨1, 2⟩ : (Tp2 Int Int))), (.dic (dictI acc95) : D)] : List D) x136.1).bind fun x146 => .ok (x146, x136.2) else (if (decide (x1.1 = 1)) = true then guardR (((cutL a_edits_here none (some x11.1)).map enc : List D).length + ([x63.1] : List D).length ≤ 1000000) <| guardR ((((cutL a_edits_here none (some x11.1)).map enc : List D) ++ ([x63.1] : List D)).length + ((cutL a_edits_here (some x11.1) none).map enc : List D).length ≤ 1000000) <| .ok ((enc ((((cutL a_edits_here none (some x11.1)).map enc : List D) ++ ([x63.1] : List D)) ++ ((cutL a_edits_here (some x11.1) none).map enc : List D))), x63.2) else guardR (((cutL a_edits_here none (some x11.1)).map enc : List D).length + ([x63.1] : List D).length ≤ 1000000) <| guardR ((((cutL a_edits_here none (some x11.1)).map enc : List D) ++ ([x63.1] : List D)).length + ((cutL a_edits_here (some (x11.1 + 1)) none).map enc : List D).length ≤ 1000000) <| .ok ((enc ((((cutL a_edits_here none (some x11.1)).map enc : List D) ++ ([x63.1] : List D)) ++ ((cutL a_edits_here (some (x11.1 + 1)) none).map enc : List D))), x63.2)))
def sp__law_bad_edits (K : PySem.W.Frag) : Sp := fun vs H Q _ => ∃ (B : Hp) (p_state : Addr) (a_state : (List Int)) (v_edits_here : V) (a_edits_here : (List (Tp3 (Tp2 Int Int) (Option (Tp2 Int Int)) (Tp2 Int Int)))), Ex B H ∧ vs = [.ref p_state, v_edits_here] ∧ Mu K B H p_state (a_state.map enc) ∧ Rep K B v_edits_here (enc a_edits_here) ∧ Post (l_bad_edits a_state a_edits_here) (fun r => RetM K p_state B H (enc r.1) (r.2.map enc) Q) (fun _ => False)
abbrev s__law_bad_edits : Stmt := top 54
theorem sc__law_bad_edits : FnScope ["_law_state", "_law_edits_here", "_law_way", "_law_at", "_law_odd", "_law_some", "_law_k"] ["_law_state", "_law_edits_here"] (defScope s__law_bad_edits) := ⟨rfl, rfl, rfl, by decide +kernel, rfl, by decide +kernel, by decide +kernel⟩
/-! ### _law_deed -/
def l_deed (a_way : Int) (a_bad : D) (a_good : D) (a_t : D) : Res D :=
  (if (decide (a_way = 0)) = true then (m_mapped__any a_bad a_t).bind fun x1 => .ok x1 else (if (decide (a_way = 1)) = true then (m_part__any a_bad a_t a_t).bind fun x8 => .ok x8 else (if (decide (a_way = 2)) = true then (m_stretches__any a_bad a_t a_t).bind fun x15 => .ok x15 else (if (decide (a_way = 3)) = true then (m_over__any a_bad a_good).bind fun x22 => .ok x22 else (if (decide (a_way = 4)) = true then (m_over__any a_good a_bad).bind fun x29 => .ok x29 else (if (decide (a_way = 5)) = true then (m_after__any a_bad a_good).bind fun x36 => .ok x36 else (if (decide (a_way = 6)) = true then (m_after__any a_good a_bad).bind fun x43 => .ok x43 else (if (decide (a_way = 7)) = true then (m_parted__any a_bad a_good).bind fun x50 => .ok x50 else (if (decide (a_way = 8)) = true then (m_parted__any a_good a_bad).bind fun x57 => .ok x57 else (if (decide (a_way = 9)) = true then (m_tidy__any a_bad).bind fun x64 => .ok x64 else (m_total__any a_bad).bind fun x71 => .ok x71))))))))))
def sp__law_deed (K : PySem.W.Frag) (mg : Str → Option Value) : Sp := fun vs H Q E => ∃ (B : Hp) (a_way : Int) (v_bad : V) (a_bad : D) (v_good : V) (a_good : D) (v_t : V) (a_t : D), Ex B H ∧ vs = [.int a_way, v_bad, v_good, v_t] ∧ Rep K B v_bad (enc a_bad) ∧ Rep K B v_good (enc a_good) ∧ Rep K B v_t (enc a_t) ∧ Post (l_deed a_way a_bad a_good a_t) (fun r => Ret K [] B H (enc r) Q) (fun e => Rai mg [] B H e E)
abbrev s__law_deed : Stmt := top 55
theorem sc__law_deed : FnScope ["_law_way", "_law_bad", "_law_good", "_law_t"] ["_law_way", "_law_bad", "_law_good", "_law_t"] (defScope s__law_deed) := ⟨rfl, rfl, rfl, by decide +kernel, rfl, by decide +kernel, by decide +kernel⟩
/-! ### _law_kind -/
def l_kind (a_way : Int) (a_bad : D) (a_good : D) (a_t : D) : Res Str :=
  lt (("told" : Str) : Str) fun x1 => (tryR ((l_deed a_way a_bad a_good a_t).bind fun x8 => .ok (.nx x1) : Res (Fl (Str) (Str))) (fun ⟨ec, _⟩ => guardR (ec ∈ (["NoEdits", "NoMoment"] : List Str)) <| (if decide (ec = "NoEdits") = true then lt (("other" : Str) : Str) fun x20 => (((if true = true then (if true = true then .ok (!false) else .ok false) else .ok false) : Res Bool).bind fun b27 => (if b27 = true then lt (("edits" : Str) : Str) fun x31 => .ok x31 else .ok x20) : Res (Str)).bind fun a32 => ((if false = true then .ok (!true) else .ok false) : Res Bool).bind fun b39 => (if b39 = true then lt (("moment" : Str) : Str) fun x43 => .ok (.nx x43) else .ok (.nx a32)) else lt (("other" : Str) : Str) fun x45 => (((if false = true then (if true = true then .ok (!true) else .ok false) else .ok false) : Res Bool).bind fun b52 => (if b52 = true then lt (("edits" : Str) : Str) fun x56 => .ok x56 else .ok x45) : Res (Str)).bind fun a57 => ((if true = true then .ok (!false) else .ok false) : Res Bool).bind fun b64 => (if b64 = true then lt (("moment" : Str) : Str) fun x68 => .ok (.nx x68) else .ok (.nx a57))))).bind (afterR fun a69 => .ok a69)
def sp__law_kind (K : PySem.W.Frag) : Sp := fun vs H Q _ => ∃ (B : Hp) (a_way : Int) (v_bad : V) (a_bad : D) (v_good : V) (a_good : D) (v_t : V) (a_t : D), Ex B H ∧ vs = [.int a_way, v_bad, v_good, v_t] ∧ Rep K B v_bad (enc a_bad) ∧ Rep K B v_good (enc a_good) ∧ Rep K B v_t (enc a_t) ∧ Post (l_kind a_way a_bad a_good a_t) (fun r => Ret K [] B H (enc r) Q) (fun _ => False)
abbrev s__law_kind : Stmt := top 56
theorem sc__law_kind : FnScope ["_law_way", "_law_bad", "_law_good", "_law_t", "_law_kind_here", "e"] ["_law_way", "_law_bad", "_law_good", "_law_t"] (defScope s__law_kind) := ⟨rfl, rfl, rfl, by decide +kernel, rfl, by decide +kernel, by decide +kernel⟩
/-! ### _law_stretch_kind -/
def l_stretch_kind (a_way : Int) (a_good : D) (a_low : D) (a_high : D) : Res Str :=
  lt (("told" : Str) : Str) fun x1 => (tryR ((if (decide (a_way = 0)) = true then (m_part__any a_good a_low a_high).bind fun x8 => .ok (.nx x1) else (m_stretches__any a_good a_low a_high).bind fun x47 => .ok (.nx x1)) : Res (Fl (Str) (Str))) (fun ⟨ec, _⟩ => guardR (ec ∈ (["NoEdits", "NoMoment"] : List Str)) <| (if decide (ec = "NoEdits") = true then (ixR ([("other" : Str), ("moment" : Str)] : List Str) (b2z false)).bind fun x29 => .ok (.nx x29) else (ixR ([("other" : Str), ("moment" : Str)] : List Str) (b2z true)).bind fun x43 => .ok (.nx x43)))).bind (afterR fun a86 => .ok a86)
def sp__law_stretch_kind (K : PySem.W.Frag) : Sp := fun vs H Q _ => ∃ (B : Hp) (a_way : Int) (v_good : V) (a_good : D) (v_low : V) (a_low : D) (v_high : V) (a_high : D), Ex B H ∧ vs = [.int a_way, v_good, v_low, v_high] ∧ Rep K B v_good (enc a_good) ∧ Rep K B v_low (enc a_low) ∧ Rep K B v_high (enc a_high) ∧ Post (l_stretch_kind a_way a_good a_low a_high) (fun r => Ret K [] B H (enc r) Q) (fun _ => False)
abbrev s__law_stretch_kind : Stmt := top 57
theorem sc__law_stretch_kind : FnScope ["_law_way", "_law_good", "_law_low", "_law_high", "_law_kind_here", "e"] ["_law_way", "_law_good", "_law_low", "_law_high"] (defScope s__law_stretch_kind) := ⟨rfl, rfl, rfl, by decide +kernel, rfl, by decide +kernel, by decide +kernel⟩
/-! ### law -/
def m_law (a_script : (List Int)) : Res Bool :=
  (l_cell_at a_script 0).bind fun x1 => (l_edits ([x1] : List Int) 7).bind fun x13 => (l_cell_at a_script 1).bind fun x19 => ((m_tidy x13.1).noErr).bind fun x31 => ((m_total x13.1).noErr).bind fun x48 => (l_digit ([x19] : List Int) 12).bind fun x104 => (ixR ([(enc ()), (enc (0 : Int)), (enc true), (enc ("1" : Str)), (enc (⟨(-1), 2⟩ : (Tp2 Int Int))), (enc (⟨2, 2⟩ : (Tp2 Int Int))), (enc (⟨1, 0⟩ : (Tp2 Int Int))), (enc (⟨1, (-2)⟩ : (Tp2 Int Int))), (enc ([1, 1] : List Int)), (enc (⟨1⟩ : (Tp1 Int))), (enc (⟨true, 1⟩ : (Tp2 Bool Int))), (enc (⟨0, 2⟩ : (Tp2 Int Int)))] : List D) x104.1).bind fun x114 => (forR (rngI 0 6) (x104.2 : (List Int)) (fun x127 (a126 : (List Int)) => (l_bad_edits a126 x13.1).bind fun x136 => (m_is_edits x136.1).bind fun x142 => (if (!decide (x142 = false)) = true then .ok (.rt false) else (m_is_edits (enc x13.1)).bind fun x148 => (if (!decide (x148 = true)) = true then .ok (.rt false) else (forR (rngI 0 11) (x136.2 : (List Int)) (fun x163 (a162 : (List Int)) => (l_digit a162 2).bind fun x180 => (ixR ([x114, (enc (⟨1, 1⟩ : (Tp2 Int Int)))] : List D) x180.1).bind fun x190 => (l_kind x163 x136.1 (enc x13.1) x190).bind fun x194 => (if (!decide (x194 = ("edits" : Str))) = true then .ok (.rt (.rt false)) else .ok (.nx x180.2)))).bind (afterR fun a200 => .ok (.nx a200)))))).bind (afterR fun a205 => (l_kind 0 (enc x13.1) (enc x13.1) x114).bind fun x212 => (if (!decide (x212 = ("moment" : Str))) = true then .ok false else (l_amount a205).bind fun x218 => (l_amount x218.2).bind fun x224 => (l_plus x218.1 x224.1).bind fun x230 => (forR (rngI 0 2) (() : Unit) (fun x245 (a244 : Unit) => (forR (([(enc (⟨x114, x230⟩ : (Tp2 D (Tp2 Int Int)))), (enc (⟨x218.1, x114⟩ : (Tp2 (Tp2 Int Int) D))), (enc (⟨x114, x114⟩ : (Tp2 D D))), (enc (⟨x230, x218.1⟩ : (Tp2 (Tp2 Int Int) (Tp2 Int Int)))), (enc (⟨x218.1, x218.1⟩ : (Tp2 (Tp2 Int Int) (Tp2 Int Int))))] : List D)) (() : Unit) (fun x296 (a295 : Unit) => (asT x296).bind fun l304 => guardR (l304.length = 2) <| (ixR l304 0).bind fun x312 => (ixR l304 1).bind fun x316 => (l_stretch_kind x245 (enc x13.1) x312 x316).bind fun x320 => (if (!decide (x320 = ("moment" : Str))) = true then .ok (.rt (.rt false)) else .ok (.nx ())))).bind (afterR fun a326 => .ok (.nx ())))).bind (afterR fun a332 => ((m_tidy x13.1).noErr).bind fun x339 => ((m_total x13.1).noErr).bind fun x356 => guardR (okEq (enc (⟨x339, x356⟩ : (Tp2 (List (Tp3 (Tp2 Int Int) (Option (Tp2 Int Int)) (Tp2 Int Int))) (Tp2 Int Int)))) (enc (⟨x31, x48⟩ : (Tp2 (List (Tp3 (Tp2 Int Int) (Option (Tp2 Int Int)) (Tp2 Int Int))) (Tp2 Int Int))))) <| .ok (eqD (enc (⟨x339, x356⟩ : (Tp2 (List (Tp3 (Tp2 Int Int) (Option (Tp2 Int Int)) (Tp2 Int Int))) (Tp2 Int Int)))) (enc (⟨x31, x48⟩ : (Tp2 (List (Tp3 (Tp2 Int Int) (Option (Tp2 Int Int)) (Tp2 Int Int))) (Tp2 Int Int))))))))
def sp_law (K : PySem.W.Frag) : Sp := fun vs H Q _ => ∃ (B : Hp) (v_script : V) (a_script : (List Int)), Ex B H ∧ vs = [v_script] ∧ Bor K B H [] v_script (a_script.map enc) ∧ Post (m_law a_script) (fun r => Ret K [] B H (enc r) Q) (fun _ => False)
abbrev s_law : Stmt := top 58
theorem sc_law : FnScope ["_law_script", "_law_edits_here", "_law_state", "_law_held", "_law_odd", "_law_k", "_law_bad", "_law_way", "_law_low", "_law_high", "_law_one", "_law_two"] ["_law_script"] (defScope s_law) := ⟨rfl, rfl, rfl, by decide +kernel, rfl, by decide +kernel, by decide +kernel⟩
section
variable {Pr : Program} {wo : World} {K : PySem.W.Frag} {mg : Str → Option Value} {base : Heap}
theorem ok_divisor {f : Addr} {fd : FuncData}  (F : Fun K "divisor" "divisor" s_divisor f fd) (bI_abs : mg "abs" = none) : FnOk Pr wo K mg base CX0 1 f fd ["one", "other"] (sp_divisor K) := by
  refine F.ok sc_divisor (fun vs H Q E h => ?_) (fun cdv A outer s H0 vs Q E hr h => ?_)
  · obtain ⟨_, _, _, _, rfl, _⟩ := h; rfl
  · obtain ⟨B0, a_one, a_other, w, rfl, P⟩ := h
    have w0 := w
    have hu := hu_of hr
    have hu64 := hu64_of hr
    have hu65 := hu65_of hr
    refine ⟨_, (pss_cons (ps_set (i := 0) sc_divisor.nd rfl (by first | exact Or.inl rfl | exact Or.inr rfl) (pe_callB cr_abs (by rfl) bI_abs PyProof.Rows.boot_abs (pa_cons (pv 0) pa_nil)))
      (pss_cons (ps_set (i := 1) sc_divisor.nd rfl (by first | exact Or.inl rfl | exact Or.inr rfl) (pe_callB cr_abs (by rfl) bI_abs PyProof.Rows.boot_abs (pa_cons (pv 1) pa_nil)))
      (pss_cons (ps_while PassesOwn.never (pt_cmpR op_gt (pv 1) pe_int (nomark _)) (pss_one (ps_par rfl sc_divisor.nd (i := 0) (j := 1) rfl rfl (by decide) rfl rfl (pa_cons (pv 1) (pa_cons (pe_op op_mod (pv 0) (pv 1)) pa_nil)) rfl)))
      (pss_one (ps_ret (pv 0)))))), ?_⟩
    unfold m_divisor at P
    have st := Stp.refl (W := []) w
    refine h_set ?_
    refine h_cb ?_
    refine h_cons ?_
    refine h_var rfl ?_
    refine h_nil ?_
    refine h_abs ?_
    replace P := P.lt
    generalize hx : (absI a_one) = x1 at P ⊢
    refine h_set ?_
    refine h_cb ?_
    refine h_cons ?_
    refine h_var rfl ?_
    refine h_nil ?_
    refine h_abs ?_
    replace P := P.lt
    generalize hx : (absI a_other) = x2 at P ⊢
    refine h_seq ?_
    have wj4 := w
    have sj3 := Stp.refl (W := []) w
    refine h_while P (fun (a : Int × Int) σ' H' => ∃ (B' : Hp), Stp [] B0 H0 B' H' ∧ σ' = [some (.int a.1), some (.int a.2)]) ⟨_, sj3, rfl⟩ ?_ ?_
    · rintro N5 C6 T7 a12 _ H14 ⟨B13, s15, rfl⟩ kn8 kk9 kr10 kb11 P
      replace st := st.go s15 go0
      replace w := s15.ok
      have sj3 := s15
      refine h_test ?_
      refine h_op ?_
      refine h_var rfl ?_
      refine h_c ?_
      refine h_I0 ?_
      refine h_bl ?_
      refine h_ite (fun c1 => ?_) (fun c1 => ?_)
      · replace P := P.iteT c1
        refine ⟨N5, kn8, ?_⟩
        refine h_par ?_
        refine h_cons ?_
        refine h_var rfl ?_
        refine h_cons ?_
        refine h_op ?_
        refine h_var rfl ?_
        refine h_var rfl ?_
        obtain ⟨gd, P⟩ := P.guard
        refine h_I gd ?_
        refine h_nil ?_
        refine h_two ?_
        replace P := P.lt
        generalize hx : (a12.1 % a12.2) = x16 at P ⊢
        refine h_nx ?_
        exact kk9 (a12.2, x16) _ _ ⟨_, sj3, rfl⟩ P.ok
      · replace P := P.iteF c1
        exact kb11 (a12.1, a12.2) _ _ ⟨_, sj3, rfl⟩ P.ok
    · rintro a17 _ H19 ⟨B18, s20, rfl⟩ P
      replace st := st.go s20 go0
      replace w := s20.ok
      refine h_nx ?_
      refine h_ret ?_
      refine h_var rfl ?_
      exact P.ok _ _ _ st (Rep.int _)
theorem ok_is_number {f : Addr} {fd : FuncData}  (F : Fun K "is_number" "is_number" s_is_number f fd) (bI_isinstance : mg "isinstance" = none) (bI_int : mg "int" = none) (bI_bool : mg "bool" = none) : FnOk Pr wo K mg base CX0 1 f fd ["thing"] (sp_is_number K) := by
  refine F.ok sc_is_number (fun vs H Q E h => ?_) (fun cdv A outer s H0 vs Q E hr h => ?_)
  · obtain ⟨_, _, _, _, rfl, _⟩ := h; rfl
  · obtain ⟨B0, v_thing, a_thing, w, rfl, r_thing, P⟩ := h
    have w0 := w
    have hu := hu_of hr
    have hu64 := hu64_of hr
    have hu65 := hu65_of hr
    refine ⟨_, (pss_one (ps_ret (pe_and (pe_callB (r := rIsi K) call_isi (by rfl) bI_isinstance PyProof.Rows.boot_isinstance (pa_cons (pv 0) (pa_cons (pe_bltn (v := .ty "int") (by rfl) bI_int Y.boot_int rfl) pa_nil))) (pe_one (pe_not (pe_callB (r := rIsi K) call_isi (by rfl) bI_isinstance PyProof.Rows.boot_isinstance (pa_cons (pv 0) (pa_cons (pe_bltn (v := .ty "bool") (by rfl) bI_bool Y.boot_bool rfl) pa_nil)))))))), ?_⟩
    unfold m_is_number at P
    have st := Stp.refl (W := []) w
    refine h_ret ?_
    refine h_and ?_
    refine h_cb ?_
    refine h_cons ?_
    refine h_var rfl ?_
    refine h_cons ?_
    refine h_c ?_
    refine h_nil ?_
    refine isi (t := "int") w (r_thing.mono st.ex) ?_
    refine h_bl ?_
    refine h_ite (fun c1 => ?_) (fun c1 => ?_)
    · replace P := P.iteT c1
      refine h_not ?_
      refine h_cb ?_
      refine h_cons ?_
      refine h_var rfl ?_
      refine h_cons ?_
      refine h_c ?_
      refine h_nil ?_
      refine isi (t := "bool") w (r_thing.mono st.ex) ?_
      refine h_bl ?_
      exact P.ok _ _ _ st (Rep.bl _)
    · replace P := P.iteF c1
      exact P.ok _ _ _ st (Rep.bl _)
theorem ok_fraction {f : Addr} {fd : FuncData} {tk_fraction_bottom : Tok} (F : FunV K "fraction" "fraction" s_fraction [.int 1 tk_fraction_bottom] f fd) {C_NoFraction : Addr} (T_NoFraction : ExcR K mg "NoFraction" C_NoFraction) {f_divisor : Addr} {d_divisor : FuncData} (g_divisor : mg "divisor" = some (.ref f_divisor)) (k_divisor : PySem.W.keepIn K (.ref f_divisor) = true) (b_divisor : L2.Binds K d_divisor ["one", "other"] []) (G_divisor : FnOk Pr wo K mg base CX0 1 f_divisor d_divisor ["one", "other"] (sp_divisor K)) {f_is_number : Addr} {d_is_number : FuncData} (g_is_number : mg "is_number" = some (.ref f_is_number)) (k_is_number : PySem.W.keepIn K (.ref f_is_number) = true) (b_is_number : L2.Binds K d_is_number ["thing"] []) (G_is_number : FnOk Pr wo K mg base CX0 1 f_is_number d_is_number ["thing"] (sp_is_number K)) : FnOk Pr wo K mg base (L2.CX Pr wo) 2 f fd ["top", "bottom"] (sp_fraction K mg) := by
  refine F.okX sc_fraction (fun vs H Q E h => ?_) (fun cdv A outer s H0 vs Q E hr h => ?_)
  · obtain ⟨_, _, _, _, _, _, rfl, _⟩ := h; rfl
  · obtain ⟨B0, v_top, a_top, v_bottom, a_bottom, w, rfl, r_top, r_bottom, P⟩ := h
    have w0 := w
    have hu := hu_of hr
    have hu64 := hu64_of hr
    have hu65 := hu65_of hr
    have hr1 : Room 1 _ := hr.mono (by decide)
    refine ⟨_, (pss_cons (ps_if (PW.pt (pw_or (pt_not (pt_val (pe_call G_is_number hr1 rfl g_is_number k_is_number b_is_number .nil pass0 (pa_cons (pv 0) pa_nil)))) (pw_or (pt_not (pt_val (pe_call G_is_number hr1 rfl g_is_number k_is_number b_is_number .nil pass0 (pa_cons (pv 1) pa_nil)))) (pw_or1 (pt_cmpR (r := rEqD K) (op_eqD hu64) (pv 1) pe_int (nomark _)))))) (pss_one (ps_raise rfl (takes_of rfl rfl rfl rfl) (pmk_own PySem.F.excBase_ValueError T_NoFraction.ex T_NoFraction.g T_NoFraction.kp (raises_own T_NoFraction.ec.hs T_NoFraction.ty) rfl))) pss_nil)
      (pss_cons (ps_set (i := 2) sc_fraction.nd rfl (by first | exact Or.inl rfl | exact Or.inr rfl) (pe_call G_divisor hr1 rfl g_divisor k_divisor b_divisor .nil pass0 (pa_cons (pv 0) (pa_cons (pv 1) pa_nil))))
      (pss_cons (ps_if (pt_cmpR op_lt (pv 1) pe_int (nomark _)) (pss_one (ps_set (i := 2) sc_fraction.nd rfl (by first | exact Or.inl rfl | exact Or.inr rfl) (pe_un un_neg (pv 2)))) pss_nil)
      (pss_one (ps_ret (pe_tup (pa_cons (pe_op op_fdivZ (pv 0) (pv 2)) (pa_cons (pe_op op_fdivZ (pv 1) (pv 2)) pa_nil)))))))), ?_⟩
    unfold m_fraction at P
    have st := Stp.refl (W := []) w
    refine h_seq <| h_if ?_
    refine h_tor ?_
    refine h_tnot ?_
    refine h_tB ?_
    refine h_call ?_
    refine h_cons ?_
    refine h_var rfl ?_
    refine h_nil ?_
    refine ⟨B0, v_top, a_top, w, rfl, (r_top.mono st.ex), (P.bind.noErr).mono (fun x1 P => ?_) (fun _ z => z.elim)⟩
    refine fun v5 B2 H3 s4 r6 => ?_
    replace st := st.go s4 go0
    replace w := s4.ok
    cases r6
    refine h_bl ?_
    refine h_iteN (fun c1 => ?_) (fun c1 => ?_)
    · replace P := P.iteF c1
      refine h_iteT ?_
      exact P.err _ _ _ T_NoFraction.g st
    · replace P := P.iteT c1
      refine h_tor ?_
      refine h_tnot ?_
      refine h_tB ?_
      refine h_call ?_
      refine h_cons ?_
      refine h_var rfl ?_
      refine h_nil ?_
      refine ⟨B2, v_bottom, a_bottom, w, rfl, (r_bottom.mono st.ex), (P.bind.noErr).mono (fun x7 P => ?_) (fun _ z => z.elim)⟩
      refine fun v11 B8 H9 s10 r12 => ?_
      replace st := st.go s10 go0
      replace w := s10.ok
      cases r12
      refine h_bl ?_
      refine h_iteN (fun c1 => ?_) (fun c1 => ?_)
      · replace P := P.iteF c1
        refine h_iteT ?_
        exact P.err _ _ _ T_NoFraction.g st
      · replace P := P.iteT c1
        refine h_test ?_
        refine h_op ?_
        refine h_var rfl ?_
        refine h_c ?_
        obtain ⟨gd, P⟩ := P.guard
        refine h_eqD (d := a_bottom) (e := (enc (0 : Int))) w (r_bottom.mono st.ex) (Rep.int _) gd ?_
        refine h_bl ?_
        refine h_ite (fun c1 => ?_) (fun c1 => ?_)
        · replace P := P.iteT c1
          exact P.err _ _ _ T_NoFraction.g st
        · replace P := P.iteF c1
          refine h_next ?_
          refine h_nx ?_
          refine h_set ?_
          refine h_call ?_
          refine h_cons ?_
          refine h_var rfl ?_
          refine h_cons ?_
          refine h_var rfl ?_
          refine h_nil ?_
          obtain ⟨i13, hi14, P⟩ := P.asI
          have rc15 := (r_top.mono st.ex)
          rw [hi14] at rc15
          cases rc15
          obtain ⟨i16, hi17, P⟩ := P.asI
          have rc18 := (r_bottom.mono st.ex)
          rw [hi17] at rc18
          cases rc18
          refine ⟨B8, i13, i16, w, rfl, (P.bind.noErr).mono (fun x19 P => ?_) (fun _ z => z.elim)⟩
          refine fun v23 B20 H21 s22 r24 => ?_
          replace st := st.go s22 go0
          replace w := s22.ok
          cases r24
          have wj26 := w
          have sj25 := Stp.refl (W := []) w
          refine h_joinS P (fun (a : Int) σ' H' => ∃ (B' : Hp), Stp [] B20 H21 B' H' ∧ σ' = [some (.int i13), some (.int i16), some (.int a)]) (fun N kk27 P => h_if ?_) ?_
          · skip
            refine h_test ?_
            refine h_op ?_
            refine h_var rfl ?_
            refine h_c ?_
            refine h_I0 ?_
            refine h_bl ?_
            refine h_ite (fun c1 => ?_) (fun c1 => ?_)
            · replace P := P.iteT c1
              refine h_set1 ?_
              refine h_un ?_
              refine h_var rfl ?_
              refine h_U ?_
              replace P := P.lt
              generalize hx : (-x19) = x28 at P ⊢
              refine h_nx ?_
              exact kk27 x28 _ _ ⟨_, sj25, rfl⟩ P.ok
            · replace P := P.iteF c1
              refine h_next ?_
              refine h_nx ?_
              exact kk27 x19 _ _ ⟨_, sj25, rfl⟩ P.ok
          rintro a29 _ H31 ⟨B30, s32, rfl⟩ P
          replace st := st.go s32 go0
          replace w := s32.ok
          refine h_ret ?_
          refine h_tup ?_
          refine h_cons ?_
          refine h_op ?_
          refine h_var rfl ?_
          refine h_var rfl ?_
          obtain ⟨gd, P⟩ := P.guard
          refine h_I gd ?_
          refine h_cons ?_
          refine h_op ?_
          refine h_var rfl ?_
          refine h_var rfl ?_
          obtain ⟨gd, P⟩ := P.guard
          refine h_I gd ?_
          refine h_nil ?_
          refine h_newT w (K := K) (.cons (Rep.int _) (.cons (Rep.int _) .nil)) (fun p33 B34 H35 s36 r37 => ?_) (by show 2 ≤ sizeLine; decide)
          replace st := st.go s36 go0
          replace w := s36.ok
          replace r37 : Rep K B34 (.ref p33) (enc (⟨(Int.fdiv i13 a29), (Int.fdiv i16 a29)⟩ : (Tp2 Int Int))) := r37
          exact P.ok _ _ _ st r37
theorem ok_is_fraction {f : Addr} {fd : FuncData}  (F : Fun K "is_fraction" "is_fraction" s_is_fraction f fd) {f_divisor : Addr} {d_divisor : FuncData} (g_divisor : mg "divisor" = some (.ref f_divisor)) (k_divisor : PySem.W.keepIn K (.ref f_divisor) = true) (b_divisor : L2.Binds K d_divisor ["one", "other"] []) (G_divisor : FnOk Pr wo K mg base CX0 1 f_divisor d_divisor ["one", "other"] (sp_divisor K)) {f_is_number : Addr} {d_is_number : FuncData} (g_is_number : mg "is_number" = some (.ref f_is_number)) (k_is_number : PySem.W.keepIn K (.ref f_is_number) = true) (b_is_number : L2.Binds K d_is_number ["thing"] []) (G_is_number : FnOk Pr wo K mg base CX0 1 f_is_number d_is_number ["thing"] (sp_is_number K)) (bI_isinstance : mg "isinstance" = none) (bI_tuple : mg "tuple" = none) (bI_len : mg "len" = none) : FnOk Pr wo K mg base CX0 2 f fd ["thing"] (sp_is_fraction K) := by
  refine F.ok sc_is_fraction (fun vs H Q E h => ?_) (fun cdv A outer s H0 vs Q E hr h => ?_)
  · obtain ⟨_, _, _, _, rfl, _⟩ := h; rfl
  · obtain ⟨B0, v_thing, a_thing, w, rfl, r_thing, P⟩ := h
    have w0 := w
    have hu := hu_of hr
    have hu64 := hu64_of hr
    have hu65 := hu65_of hr
    have hr1 : Room 1 _ := hr.mono (by decide)
    refine ⟨_, (pss_cons (ps_if (PW.pt (pw_or (pt_not (pt_val (pe_callB (r := rIsi K) call_isi (by rfl) bI_isinstance PyProof.Rows.boot_isinstance (pa_cons (pv 0) (pa_cons (pe_bltn (v := .ty "tuple") (by rfl) bI_tuple Y.boot_tuple rfl) pa_nil))))) (pw_or1 (pt_cmpR op_ne (pe_callB (r := rLenY K) cr_len (by rfl) bI_len PySem.boot_len (pa_cons (pv 0) pa_nil)) pe_int (nomark _))))) (pss_one (ps_ret pe_bl)) pss_nil)
      (pss_cons (ps_asg (pv 0) (pg_tupK (K := K) (n := 2) rfl rfl (pgs_cons (pg_name (i := 1) sc_is_fraction.nd rfl (by first | exact Or.inl rfl | exact Or.inr rfl)) (pgs_cons (pg_name (i := 2) sc_is_fraction.nd rfl (by first | exact Or.inl rfl | exact Or.inr rfl)) pgs_nil))))
      (pss_cons (ps_if (PW.pt (pw_or (pt_not (pt_val (pe_call G_is_number hr1 rfl g_is_number k_is_number b_is_number .nil pass0 (pa_cons (pv 1) pa_nil)))) (pw_or (pt_not (pt_val (pe_call G_is_number hr1 rfl g_is_number k_is_number b_is_number .nil pass0 (pa_cons (pv 2) pa_nil)))) (pw_or1 (pt_cmpR op_lt (pv 2) pe_int (nomark _)))))) (pss_one (ps_ret pe_bl)) pss_nil)
      (pss_one (ps_ret (pe_cmpR op_eq (pe_call G_divisor hr1 rfl g_divisor k_divisor b_divisor .nil pass0 (pa_cons (pv 1) (pa_cons (pv 2) pa_nil))) pe_int (nomark _))))))), ?_⟩
    unfold m_is_fraction at P
    have st := Stp.refl (W := []) w
    refine h_seq <| h_if ?_
    refine h_tor ?_
    refine h_tnot ?_
    refine h_tB ?_
    refine h_cb ?_
    refine h_cons ?_
    refine h_var rfl ?_
    refine h_cons ?_
    refine h_c ?_
    refine h_nil ?_
    refine isi (t := "tuple") w (r_thing.mono st.ex) ?_
    refine h_bl ?_
    refine h_iteN (fun c1 => ?_) (fun c1 => ?_)
    · replace P := P.iteF c1
      refine h_iteT ?_
      refine h_ret ?_
      refine h_c ?_
      exact P.ok _ _ _ st (Rep.bl _)
    · replace P := P.iteT c1
      refine h_test ?_
      refine h_op ?_
      refine h_cb ?_
      refine h_cons ?_
      refine h_var rfl ?_
      refine h_nil ?_
      obtain ⟨l1, hl2, P⟩ := P.asT
      have rc3 := (r_thing.mono st.ex)
      rw [hl2] at rc3
      obtain ⟨p4, xs5, rfl, hs6, hr7⟩ := Rep.st w rc3
      refine h_lenTl hs6 hr7 ?_
      refine h_c ?_
      refine h_neI ?_
      refine h_bl ?_
      refine h_ite (fun c1 => ?_) (fun c1 => ?_)
      · replace P := P.iteT c1
        refine h_ret ?_
        refine h_c ?_
        exact P.ok _ _ _ st (Rep.bl _)
      · replace P := P.iteF c1
        refine h_next ?_
        refine h_nx ?_
        refine h_seq ?_
        refine h_asg ?_
        refine h_var rfl ?_
        obtain ⟨l8, hl9, P⟩ := P.asT
        have rc10 := (r_thing.mono st.ex)
        rw [hl9] at rc10
        obtain ⟨p11, xs12, hv, hs13, hr14⟩ := Rep.st w rc10
        cases hv
        obtain ⟨gd, P⟩ := P.guard
        refine h_tupG hs13 (by rw [hr14.length, List.length_map]; exact gd) ?_
        obtain ⟨x16, hx17, P⟩ := P.ix
        obtain ⟨u18, huu18, r19⟩ := RepL.atE hr14 hx17
        obtain ⟨x20, hx21, P⟩ := P.ix
        obtain ⟨u22, huu22, r23⟩ := RepL.atE hr14 hx21
        obtain rfl : xs12 = [u18, u22] := tup2 (by rw [hr14.length, List.length_map]; exact gd) huu18 huu22
        refine h_gcons ?_
        refine h_gname ?_
        refine h_gcons ?_
        refine h_gname ?_
        refine h_gnil ?_
        refine h_nx ?_
        refine h_seq <| h_if ?_
        refine h_tor ?_
        refine h_tnot ?_
        refine h_tB ?_
        refine h_call ?_
        refine h_cons ?_
        refine h_var rfl ?_
        refine h_nil ?_
        refine ⟨B0, u18, x16, w, rfl, r19, (P.bind).mono (fun x24 P => ?_) (fun _ z => z)⟩
        refine fun v28 B25 H26 s27 r29 => ?_
        replace r19 := r19.mono s27.ex
        replace r23 := r23.mono s27.ex
        replace st := st.go s27 go0
        replace w := s27.ok
        cases r29
        refine h_bl ?_
        refine h_iteN (fun c1 => ?_) (fun c1 => ?_)
        · replace P := P.iteF c1
          refine h_iteT ?_
          refine h_ret ?_
          refine h_c ?_
          exact P.ok _ _ _ st (Rep.bl _)
        · replace P := P.iteT c1
          refine h_tor ?_
          refine h_tnot ?_
          refine h_tB ?_
          refine h_call ?_
          refine h_cons ?_
          refine h_var rfl ?_
          refine h_nil ?_
          refine ⟨B25, u22, x20, w, rfl, r23, (P.bind).mono (fun x30 P => ?_) (fun _ z => z)⟩
          refine fun v34 B31 H32 s33 r35 => ?_
          replace r19 := r19.mono s33.ex
          replace r23 := r23.mono s33.ex
          replace st := st.go s33 go0
          replace w := s33.ok
          cases r35
          refine h_bl ?_
          refine h_iteN (fun c1 => ?_) (fun c1 => ?_)
          · replace P := P.iteF c1
            refine h_iteT ?_
            refine h_ret ?_
            refine h_c ?_
            exact P.ok _ _ _ st (Rep.bl _)
          · replace P := P.iteT c1
            refine h_test ?_
            refine h_op ?_
            refine h_var rfl ?_
            refine h_c ?_
            obtain ⟨i36, hi37, P⟩ := P.asI
            have rc38 := r23
            rw [hi37] at rc38
            cases rc38
            refine h_I0 ?_
            refine h_bl ?_
            refine h_ite (fun c1 => ?_) (fun c1 => ?_)
            · replace P := P.iteT c1
              refine h_ret ?_
              refine h_c ?_
              exact P.ok _ _ _ st (Rep.bl _)
            · replace P := P.iteF c1
              refine h_next ?_
              refine h_nx ?_
              refine h_ret ?_
              refine h_op ?_
              refine h_call ?_
              refine h_cons ?_
              refine h_var rfl ?_
              refine h_cons ?_
              refine h_var rfl ?_
              refine h_nil ?_
              obtain ⟨i39, hi40, P⟩ := P.asI
              have rc41 := r19
              rw [hi40] at rc41
              cases rc41
              refine ⟨B31, i39, i36, w, rfl, (P.bind).mono (fun x42 P => ?_) (fun _ z => z)⟩
              refine fun v46 B43 H44 s45 r47 => ?_
              replace r19 := r19.mono s45.ex
              replace r23 := r23.mono s45.ex
              replace st := st.go s45 go0
              replace w := s45.ok
              cases r47
              refine h_c ?_
              refine h_eqI ?_
              exact P.ok _ _ _ st (Rep.bl _)
theorem ok_is_moment {f : Addr} {fd : FuncData}  (F : Fun K "is_moment" "is_moment" s_is_moment f fd) {f_is_fraction : Addr} {d_is_fraction : FuncData} (g_is_fraction : mg "is_fraction" = some (.ref f_is_fraction)) (k_is_fraction : PySem.W.keepIn K (.ref f_is_fraction) = true) (b_is_fraction : L2.Binds K d_is_fraction ["thing"] []) (G_is_fraction : FnOk Pr wo K mg base CX0 2 f_is_fraction d_is_fraction ["thing"] (sp_is_fraction K)) : FnOk Pr wo K mg base CX0 3 f fd ["thing"] (sp_is_moment K) := by
  refine F.ok sc_is_moment (fun vs H Q E h => ?_) (fun cdv A outer s H0 vs Q E hr h => ?_)
  · obtain ⟨_, _, _, _, rfl, _⟩ := h; rfl
  · obtain ⟨B0, v_thing, a_thing, w, rfl, r_thing, P⟩ := h
    have w0 := w
    have hu := hu_of hr
    have hu64 := hu64_of hr
    have hu65 := hu65_of hr
    have hr2 : Room 2 _ := hr.mono (by decide)
    refine ⟨_, (pss_one (ps_ret (pe_and (pe_call G_is_fraction hr2 rfl g_is_fraction k_is_fraction b_is_fraction .nil pass0 (pa_cons (pv 0) pa_nil)) (pe_one (pe_cmpR op_ge (pe_ix (r := rIxT K) ix_tup (pv 0) pe_int (fun _ _ => rfl)) pe_int (nomark _)))))), ?_⟩
    unfold m_is_moment at P
    have st := Stp.refl (W := []) w
    refine h_ret ?_
    refine h_and ?_
    refine h_call ?_
    refine h_cons ?_
    refine h_var rfl ?_
    refine h_nil ?_
    refine ⟨B0, v_thing, a_thing, w, rfl, (r_thing.mono st.ex), (P.bind).mono (fun x1 P => ?_) (fun _ z => z)⟩
    refine fun v5 B2 H3 s4 r6 => ?_
    replace st := st.go s4 go0
    replace w := s4.ok
    cases r6
    refine h_bl ?_
    refine h_ite (fun c1 => ?_) (fun c1 => ?_)
    · replace P := P.iteT c1
      refine h_op ?_
      refine h_op ?_
      refine h_var rfl ?_
      refine h_c ?_
      obtain ⟨l7, hl8, P⟩ := P.asT
      have rc9 := (r_thing.mono st.ex)
      rw [hl8] at rc9
      obtain ⟨p10, xs11, rfl, hs12, hr13⟩ := Rep.st w rc9
      obtain ⟨x14, hx15, P⟩ := P.ix
      obtain ⟨u16, hu, r17⟩ := RepL.atE hr13 hx15
      refine h_ixT hs12 hu ?_
      refine h_c ?_
      obtain ⟨i18, hi19, P⟩ := P.asI
      have rc20 := r17
      rw [hi19] at rc20
      cases rc20
      refine h_I0 ?_
      exact P.ok _ _ _ st (Rep.bl _)
    · replace P := P.iteF c1
      exact P.ok _ _ _ st (Rep.bl _)
theorem ok_plus {f : Addr} {fd : FuncData}  (F : Fun K "plus" "plus" s_plus f fd) {f_fraction : Addr} {d_fraction : FuncData} (g_fraction : mg "fraction" = some (.ref f_fraction)) (k_fraction : PySem.W.keepIn K (.ref f_fraction) = true) (b_fraction : L2.Binds K d_fraction ["top", "bottom"] []) (G_fraction : FnOk Pr wo K mg base (L2.CX Pr wo) 2 f_fraction d_fraction ["top", "bottom"] (sp_fraction K mg)) : FnOk Pr wo K mg base (L2.CX Pr wo) 3 f fd ["one", "other"] (sp_plus K mg) := by
  refine F.okX sc_plus (fun vs H Q E h => ?_) (fun cdv A outer s H0 vs Q E hr h => ?_)
  · obtain ⟨_, _, _, _, _, _, rfl, _⟩ := h; rfl
  · obtain ⟨B0, v_one, a_one, v_other, a_other, w, rfl, r_one, r_other, P⟩ := h
    have w0 := w
    have hu := hu_of hr
    have hu64 := hu64_of hr
    have hu65 := hu65_of hr
    have hr2 : Room 2 _ := hr.mono (by decide)
    refine ⟨_, (pss_one (ps_ret (pe_callS G_fraction hr2 rfl g_fraction k_fraction b_fraction (fun σ => passAt (takes_of rfl rfl rfl rfl) σ) (pa_cons (pe_op op_add (pe_op op_mulW (pe_ix (r := rIxT K) ix_tup (pv 0) pe_int (fun _ _ => rfl)) (pe_ix (r := rIxT K) ix_tup (pv 1) pe_int (fun _ _ => rfl))) (pe_op op_mulW (pe_ix (r := rIxT K) ix_tup (pv 1) pe_int (fun _ _ => rfl)) (pe_ix (r := rIxT K) ix_tup (pv 0) pe_int (fun _ _ => rfl)))) (pa_cons (pe_op op_mulW (pe_ix (r := rIxT K) ix_tup (pv 0) pe_int (fun _ _ => rfl)) (pe_ix (r := rIxT K) ix_tup (pv 1) pe_int (fun _ _ => rfl))) pa_nil))))), ?_⟩
    unfold m_plus at P
    have st := Stp.refl (W := []) w
    refine h_ret ?_
    refine h_callS ?_
    refine h_cons ?_
    refine h_op ?_
    refine h_op ?_
    refine h_op ?_
    refine h_var rfl ?_
    refine h_c ?_
    obtain ⟨p1, xs2, rfl, hs3, hr4⟩ := Rep.st w (r_one.mono st.ex)
    obtain ⟨u5, hu, r6⟩ := RepL.at hr4 (i := 0) rfl
    refine h_ixT hs3 hu ?_
    cases r6
    refine h_op ?_
    refine h_var rfl ?_
    refine h_c ?_
    obtain ⟨p7, xs8, rfl, hs9, hr10⟩ := Rep.st w (r_other.mono st.ex)
    obtain ⟨u11, hu, r12⟩ := RepL.at hr10 (i := 1) rfl
    refine h_ixT hs9 hu ?_
    cases r12
    obtain ⟨gd, P⟩ := P.guard
    refine h_I gd ?_
    refine h_op ?_
    refine h_op ?_
    refine h_var rfl ?_
    refine h_c ?_
    obtain ⟨p13, xs14, hv, hs15, hr16⟩ := Rep.st w (r_other.mono st.ex)
    cases hv
    obtain ⟨u17, hu, r18⟩ := RepL.at hr16 (i := 0) rfl
    refine h_ixT hs15 hu ?_
    cases r18
    refine h_op ?_
    refine h_var rfl ?_
    refine h_c ?_
    obtain ⟨p19, xs20, hv, hs21, hr22⟩ := Rep.st w (r_one.mono st.ex)
    cases hv
    obtain ⟨u23, hu, r24⟩ := RepL.at hr22 (i := 1) rfl
    refine h_ixT hs21 hu ?_
    cases r24
    obtain ⟨gd, P⟩ := P.guard
    refine h_I gd ?_
    refine h_I0 ?_
    refine h_cons ?_
    refine h_op ?_
    refine h_op ?_
    refine h_var rfl ?_
    refine h_c ?_
    obtain ⟨p25, xs26, hv, hs27, hr28⟩ := Rep.st w (r_one.mono st.ex)
    cases hv
    obtain ⟨u29, hu, r30⟩ := RepL.at hr28 (i := 1) rfl
    refine h_ixT hs27 hu ?_
    cases r30
    refine h_op ?_
    refine h_var rfl ?_
    refine h_c ?_
    obtain ⟨p31, xs32, hv, hs33, hr34⟩ := Rep.st w (r_other.mono st.ex)
    cases hv
    obtain ⟨u35, hu, r36⟩ := RepL.at hr34 (i := 1) rfl
    refine h_ixT hs33 hu ?_
    cases r36
    obtain ⟨gd, P⟩ := P.guard
    refine h_I gd ?_
    refine h_nil ?_
    refine ⟨B0, .int ((a_one.a * a_other.b) + (a_other.a * a_one.b)), (enc (((a_one.a * a_other.b) + (a_other.a * a_one.b)) : Int)), .int (a_one.b * a_other.b), (enc ((a_one.b * a_other.b) : Int)), w, rfl, (Rep.int _), (Rep.int _), Post.mono2 P.bind (fun e43 P => ?_) (fun x37 P => ?_)⟩
    · skip
      exact fun C B' H' g s => P C B' H' g (st.go s go0)
    refine fun v41 B38 H39 s40 r42 => ?_
    replace st := st.go s40 go0
    replace w := s40.ok
    exact P.ok _ _ _ st r42
theorem ok_times {f : Addr} {fd : FuncData}  (F : Fun K "times" "times" s_times f fd) {f_fraction : Addr} {d_fraction : FuncData} (g_fraction : mg "fraction" = some (.ref f_fraction)) (k_fraction : PySem.W.keepIn K (.ref f_fraction) = true) (b_fraction : L2.Binds K d_fraction ["top", "bottom"] []) (G_fraction : FnOk Pr wo K mg base (L2.CX Pr wo) 2 f_fraction d_fraction ["top", "bottom"] (sp_fraction K mg)) : FnOk Pr wo K mg base (L2.CX Pr wo) 3 f fd ["one", "other"] (sp_times K mg) := by
  refine F.okX sc_times (fun vs H Q E h => ?_) (fun cdv A outer s H0 vs Q E hr h => ?_)
  · obtain ⟨_, _, _, _, _, _, rfl, _⟩ := h; rfl
  · obtain ⟨B0, v_one, a_one, v_other, a_other, w, rfl, r_one, r_other, P⟩ := h
    have w0 := w
    have hu := hu_of hr
    have hu64 := hu64_of hr
    have hu65 := hu65_of hr
    have hr2 : Room 2 _ := hr.mono (by decide)
    refine ⟨_, (pss_one (ps_ret (pe_callS G_fraction hr2 rfl g_fraction k_fraction b_fraction (fun σ => passAt (takes_of rfl rfl rfl rfl) σ) (pa_cons (pe_op op_mulW (pe_ix (r := rIxT K) ix_tup (pv 0) pe_int (fun _ _ => rfl)) (pe_ix (r := rIxT K) ix_tup (pv 1) pe_int (fun _ _ => rfl))) (pa_cons (pe_op op_mulW (pe_ix (r := rIxT K) ix_tup (pv 0) pe_int (fun _ _ => rfl)) (pe_ix (r := rIxT K) ix_tup (pv 1) pe_int (fun _ _ => rfl))) pa_nil))))), ?_⟩
    unfold m_times at P
    have st := Stp.refl (W := []) w
    refine h_ret ?_
    refine h_callS ?_
    refine h_cons ?_
    refine h_op ?_
    refine h_op ?_
    refine h_var rfl ?_
    refine h_c ?_
    obtain ⟨p1, xs2, rfl, hs3, hr4⟩ := Rep.st w (r_one.mono st.ex)
    obtain ⟨u5, hu, r6⟩ := RepL.at hr4 (i := 0) rfl
    refine h_ixT hs3 hu ?_
    cases r6
    refine h_op ?_
    refine h_var rfl ?_
    refine h_c ?_
    obtain ⟨p7, xs8, rfl, hs9, hr10⟩ := Rep.st w (r_other.mono st.ex)
    obtain ⟨u11, hu, r12⟩ := RepL.at hr10 (i := 0) rfl
    refine h_ixT hs9 hu ?_
    cases r12
    obtain ⟨gd, P⟩ := P.guard
    refine h_I gd ?_
    refine h_cons ?_
    refine h_op ?_
    refine h_op ?_
    refine h_var rfl ?_
    refine h_c ?_
    obtain ⟨p13, xs14, hv, hs15, hr16⟩ := Rep.st w (r_one.mono st.ex)
    cases hv
    obtain ⟨u17, hu, r18⟩ := RepL.at hr16 (i := 1) rfl
    refine h_ixT hs15 hu ?_
    cases r18
    refine h_op ?_
    refine h_var rfl ?_
    refine h_c ?_
    obtain ⟨p19, xs20, hv, hs21, hr22⟩ := Rep.st w (r_other.mono st.ex)
    cases hv
    obtain ⟨u23, hu, r24⟩ := RepL.at hr22 (i := 1) rfl
    refine h_ixT hs21 hu ?_
    cases r24
    obtain ⟨gd, P⟩ := P.guard
    refine h_I gd ?_
    refine h_nil ?_
    refine ⟨B0, .int (a_one.a * a_other.a), (enc ((a_one.a * a_other.a) : Int)), .int (a_one.b * a_other.b), (enc ((a_one.b * a_other.b) : Int)), w, rfl, (Rep.int _), (Rep.int _), Post.mono2 P.bind (fun e31 P => ?_) (fun x25 P => ?_)⟩
    · skip
      exact fun C B' H' g s => P C B' H' g (st.go s go0)
    refine fun v29 B26 H27 s28 r30 => ?_
    replace st := st.go s28 go0
    replace w := s28.ok
    exact P.ok _ _ _ st r30
theorem ok_less {f : Addr} {fd : FuncData}  (F : Fun K "less" "less" s_less f fd)  : FnOk Pr wo K mg base CX0 1 f fd ["one", "other"] (sp_less K) := by
  refine F.ok sc_less (fun vs H Q E h => ?_) (fun cdv A outer s H0 vs Q E hr h => ?_)
  · obtain ⟨_, _, _, _, _, _, rfl, _⟩ := h; rfl
  · obtain ⟨B0, v_one, a_one, v_other, a_other, w, rfl, r_one, r_other, P⟩ := h
    have w0 := w
    have hu := hu_of hr
    have hu64 := hu64_of hr
    have hu65 := hu65_of hr
    refine ⟨_, (pss_one (ps_ret (pe_cmpR op_lt (pe_op op_mulW (pe_ix (r := rIxT K) ix_tup (pv 0) pe_int (fun _ _ => rfl)) (pe_ix (r := rIxT K) ix_tup (pv 1) pe_int (fun _ _ => rfl))) (pe_op op_mulW (pe_ix (r := rIxT K) ix_tup (pv 1) pe_int (fun _ _ => rfl)) (pe_ix (r := rIxT K) ix_tup (pv 0) pe_int (fun _ _ => rfl))) (nomark _)))), ?_⟩
    unfold m_less at P
    have st := Stp.refl (W := []) w
    refine h_ret ?_
    refine h_op ?_
    refine h_op ?_
    refine h_op ?_
    refine h_var rfl ?_
    refine h_c ?_
    obtain ⟨p1, xs2, rfl, hs3, hr4⟩ := Rep.st w (r_one.mono st.ex)
    obtain ⟨u5, hu, r6⟩ := RepL.at hr4 (i := 0) rfl
    refine h_ixT hs3 hu ?_
    cases r6
    refine h_op ?_
    refine h_var rfl ?_
    refine h_c ?_
    obtain ⟨p7, xs8, rfl, hs9, hr10⟩ := Rep.st w (r_other.mono st.ex)
    obtain ⟨u11, hu, r12⟩ := RepL.at hr10 (i := 1) rfl
    refine h_ixT hs9 hu ?_
    cases r12
    obtain ⟨gd, P⟩ := P.guard
    refine h_I gd ?_
    refine h_op ?_
    refine h_op ?_
    refine h_var rfl ?_
    refine h_c ?_
    obtain ⟨p13, xs14, hv, hs15, hr16⟩ := Rep.st w (r_other.mono st.ex)
    cases hv
    obtain ⟨u17, hu, r18⟩ := RepL.at hr16 (i := 0) rfl
    refine h_ixT hs15 hu ?_
    cases r18
    refine h_op ?_
    refine h_var rfl ?_
    refine h_c ?_
    obtain ⟨p19, xs20, hv, hs21, hr22⟩ := Rep.st w (r_one.mono st.ex)
    cases hv
    obtain ⟨u23, hu, r24⟩ := RepL.at hr22 (i := 1) rfl
    refine h_ixT hs21 hu ?_
    cases r24
    obtain ⟨gd, P⟩ := P.guard
    refine h_I gd ?_
    refine h_I0 ?_
    exact P.ok _ _ _ st (Rep.bl _)
theorem ok_is_edit {f : Addr} {fd : FuncData}  (F : Fun K "is_edit" "is_edit" s_is_edit f fd) {C_NOUGHT : Addr} (c_NOUGHT : CT K mg "NOUGHT" C_NOUGHT (⟨0, 1⟩ : (Tp2 Int Int))) {f_is_moment : Addr} {d_is_moment : FuncData} (g_is_moment : mg "is_moment" = some (.ref f_is_moment)) (k_is_moment : PySem.W.keepIn K (.ref f_is_moment) = true) (b_is_moment : L2.Binds K d_is_moment ["thing"] []) (G_is_moment : FnOk Pr wo K mg base CX0 3 f_is_moment d_is_moment ["thing"] (sp_is_moment K)) {f_is_fraction : Addr} {d_is_fraction : FuncData} (g_is_fraction : mg "is_fraction" = some (.ref f_is_fraction)) (k_is_fraction : PySem.W.keepIn K (.ref f_is_fraction) = true) (b_is_fraction : L2.Binds K d_is_fraction ["thing"] []) (G_is_fraction : FnOk Pr wo K mg base CX0 2 f_is_fraction d_is_fraction ["thing"] (sp_is_fraction K)) {f_less : Addr} {d_less : FuncData} (g_less : mg "less" = some (.ref f_less)) (k_less : PySem.W.keepIn K (.ref f_less) = true) (b_less : L2.Binds K d_less ["one", "other"] []) (G_less : FnOk Pr wo K mg base CX0 1 f_less d_less ["one", "other"] (sp_less K)) (bI_isinstance : mg "isinstance" = none) (bI_tuple : mg "tuple" = none) (bI_len : mg "len" = none) : FnOk Pr wo K mg base CX0 4 f fd ["thing"] (sp_is_edit K) := by
  refine F.ok sc_is_edit (fun vs H Q E h => ?_) (fun cdv A outer s H0 vs Q E hr h => ?_)
  · obtain ⟨_, _, _, _, rfl, _⟩ := h; rfl
  · obtain ⟨B0, v_thing, a_thing, w, rfl, r_thing, P⟩ := h
    have w0 := w
    have hu := hu_of hr
    have hu64 := hu64_of hr
    have hu65 := hu65_of hr
    have hr1 : Room 1 _ := hr.mono (by decide)
    have hr2 : Room 2 _ := hr.mono (by decide)
    have hr3 : Room 3 _ := hr.mono (by decide)
    refine ⟨_, (pss_cons (ps_if (PW.pt (pw_or (pt_not (pt_val (pe_callB (r := rIsi K) call_isi (by rfl) bI_isinstance PyProof.Rows.boot_isinstance (pa_cons (pv 0) (pa_cons (pe_bltn (v := .ty "tuple") (by rfl) bI_tuple Y.boot_tuple rfl) pa_nil))))) (pw_or1 (pt_cmpR op_ne (pe_callB (r := rLenY K) cr_len (by rfl) bI_len PySem.boot_len (pa_cons (pv 0) pa_nil)) pe_int (nomark _))))) (pss_one (ps_ret pe_bl)) pss_nil)
      (pss_cons (ps_asg (pv 0) (pg_tupK (K := K) (n := 3) rfl rfl (pgs_cons (pg_name (i := 1) sc_is_edit.nd rfl (by first | exact Or.inl rfl | exact Or.inr rfl)) (pgs_cons (pg_name (i := 2) sc_is_edit.nd rfl (by first | exact Or.inl rfl | exact Or.inr rfl)) (pgs_cons (pg_name (i := 3) sc_is_edit.nd rfl (by first | exact Or.inl rfl | exact Or.inr rfl)) pgs_nil)))))
      (pss_cons (ps_if (PW.pt (pw_or (pt_not (pt_val (pe_call G_is_fraction hr2 rfl g_is_fraction k_is_fraction b_is_fraction .nil pass0 (pa_cons (pv 1) pa_nil)))) (pw_or (pt_not (pt_val (pe_call G_less hr1 rfl g_less k_less b_less .nil pass0 (pa_cons (pe_glob (v := .ref C_NOUGHT) (by rfl) c_NOUGHT.g rfl) (pa_cons (pv 1) pa_nil))))) (pw_or1 (pt_not (pt_val (pe_call G_is_moment hr3 rfl g_is_moment k_is_moment b_is_moment .nil pass0 (pa_cons (pv 3) pa_nil)))))))) (pss_one (ps_ret pe_bl)) pss_nil)
      (pss_cons (ps_if (pt_cmpR op_isNn (pv 2) pe_non (nomark _)) (pss_one (ps_ret (pe_cmpR (r := rEqD K) (op_eqD hu64) (pv 3) (pe_glob (v := .ref C_NOUGHT) (by rfl) c_NOUGHT.g rfl) (nomark _)))) pss_nil)
      (pss_one (ps_ret (pe_call G_is_moment hr3 rfl g_is_moment k_is_moment b_is_moment .nil pass0 (pa_cons (pv 2) pa_nil)))))))), ?_⟩
    unfold m_is_edit at P
    have st := Stp.refl (W := []) w
    refine h_seq <| h_if ?_
    refine h_tor ?_
    refine h_tnot ?_
    refine h_tB ?_
    refine h_cb ?_
    refine h_cons ?_
    refine h_var rfl ?_
    refine h_cons ?_
    refine h_c ?_
    refine h_nil ?_
    refine isi (t := "tuple") w (r_thing.mono st.ex) ?_
    refine h_bl ?_
    refine h_iteN (fun c1 => ?_) (fun c1 => ?_)
    · replace P := P.iteF c1
      refine h_iteT ?_
      refine h_ret ?_
      refine h_c ?_
      exact P.ok _ _ _ st (Rep.bl _)
    · replace P := P.iteT c1
      refine h_test ?_
      refine h_op ?_
      refine h_cb ?_
      refine h_cons ?_
      refine h_var rfl ?_
      refine h_nil ?_
      obtain ⟨l1, hl2, P⟩ := P.asT
      have rc3 := (r_thing.mono st.ex)
      rw [hl2] at rc3
      obtain ⟨p4, xs5, rfl, hs6, hr7⟩ := Rep.st w rc3
      refine h_lenTl hs6 hr7 ?_
      refine h_c ?_
      refine h_neI ?_
      refine h_bl ?_
      refine h_ite (fun c1 => ?_) (fun c1 => ?_)
      · replace P := P.iteT c1
        refine h_ret ?_
        refine h_c ?_
        exact P.ok _ _ _ st (Rep.bl _)
      · replace P := P.iteF c1
        refine h_next ?_
        refine h_nx ?_
        refine h_seq ?_
        refine h_asg ?_
        refine h_var rfl ?_
        obtain ⟨l8, hl9, P⟩ := P.asT
        have rc10 := (r_thing.mono st.ex)
        rw [hl9] at rc10
        obtain ⟨p11, xs12, hv, hs13, hr14⟩ := Rep.st w rc10
        cases hv
        obtain ⟨gd, P⟩ := P.guard
        refine h_tupG hs13 (by rw [hr14.length, List.length_map]; exact gd) ?_
        obtain ⟨x16, hx17, P⟩ := P.ix
        obtain ⟨u18, huu18, r19⟩ := RepL.atE hr14 hx17
        obtain ⟨x20, hx21, P⟩ := P.ix
        obtain ⟨u22, huu22, r23⟩ := RepL.atE hr14 hx21
        obtain ⟨x24, hx25, P⟩ := P.ix
        obtain ⟨u26, huu26, r27⟩ := RepL.atE hr14 hx25
        obtain rfl : xs12 = [u18, u22, u26] := tup3 (by rw [hr14.length, List.length_map]; exact gd) huu18 huu22 huu26
        refine h_gcons ?_
        refine h_gname ?_
        refine h_gcons ?_
        refine h_gname ?_
        refine h_gcons ?_
        refine h_gname ?_
        refine h_gnil ?_
        refine h_nx ?_
        refine h_seq <| h_if ?_
        refine h_tor ?_
        refine h_tnot ?_
        refine h_tB ?_
        refine h_call ?_
        refine h_cons ?_
        refine h_var rfl ?_
        refine h_nil ?_
        refine ⟨B0, u18, x16, w, rfl, r19, (P.bind).mono (fun x28 P => ?_) (fun _ z => z)⟩
        refine fun v32 B29 H30 s31 r33 => ?_
        replace r19 := r19.mono s31.ex
        replace r23 := r23.mono s31.ex
        replace r27 := r27.mono s31.ex
        replace st := st.go s31 go0
        replace w := s31.ok
        cases r33
        refine h_bl ?_
        refine h_iteN (fun c1 => ?_) (fun c1 => ?_)
        · replace P := P.iteF c1
          refine h_iteT ?_
          refine h_ret ?_
          refine h_c ?_
          exact P.ok _ _ _ st (Rep.bl _)
        · replace P := P.iteT c1
          refine h_tor ?_
          refine h_tnot ?_
          refine h_tB ?_
          refine h_call ?_
          refine h_cons ?_
          refine h_c ?_
          have r34 := c_NOUGHT.rep B29
          refine h_cons ?_
          refine h_var rfl ?_
          refine h_nil ?_
          obtain ⟨x35, hx36, P⟩ := P.asD
          have rc37 := r19
          rw [hx36] at rc37
          refine ⟨B29, (.ref C_NOUGHT), (⟨0, 1⟩ : (Tp2 Int Int)), u18, x35, w, rfl, r34, rc37, (P.bind).mono (fun x38 P => ?_) (fun _ z => z)⟩
          refine fun v42 B39 H40 s41 r43 => ?_
          replace r19 := r19.mono s41.ex
          replace r23 := r23.mono s41.ex
          replace r27 := r27.mono s41.ex
          replace r34 := r34.mono s41.ex
          replace st := st.go s41 go0
          replace w := s41.ok
          cases r43
          refine h_bl ?_
          refine h_iteN (fun c1 => ?_) (fun c1 => ?_)
          · replace P := P.iteF c1
            refine h_iteT ?_
            refine h_ret ?_
            refine h_c ?_
            exact P.ok _ _ _ st (Rep.bl _)
          · replace P := P.iteT c1
            refine h_tnot ?_
            refine h_tB ?_
            refine h_call ?_
            refine h_cons ?_
            refine h_var rfl ?_
            refine h_nil ?_
            refine ⟨B39, u26, x24, w, rfl, r27, (P.bind).mono (fun x44 P => ?_) (fun _ z => z)⟩
            refine fun v48 B45 H46 s47 r49 => ?_
            replace r19 := r19.mono s47.ex
            replace r23 := r23.mono s47.ex
            replace r27 := r27.mono s47.ex
            replace st := st.go s47 go0
            replace w := s47.ok
            cases r49
            refine h_bl ?_
            refine h_iteN (fun c1 => ?_) (fun c1 => ?_)
            · replace P := P.iteF c1
              refine h_ret ?_
              refine h_c ?_
              exact P.ok _ _ _ st (Rep.bl _)
            · replace P := P.iteT c1
              refine h_next ?_
              refine h_nx ?_
              refine h_seq <| h_if ?_
              refine h_test ?_
              refine h_op ?_
              refine h_var rfl ?_
              refine h_c ?_
              refine h_isN r23 ?_
              refine h_bl ?_
              refine h_ite (fun c1 => ?_) (fun c1 => ?_)
              · replace P := P.iteT c1
                refine h_ret ?_
                refine h_op ?_
                refine h_var rfl ?_
                refine h_c ?_
                have r50 := c_NOUGHT.rep B45
                obtain ⟨gd, P⟩ := P.guard
                refine h_eqD (d := x24) (e := (enc (⟨0, 1⟩ : (Tp2 Int Int)))) w r27 r50 gd ?_
                exact P.ok _ _ _ st (Rep.bl _)
              · replace P := P.iteF c1
                refine h_next ?_
                refine h_nx ?_
                refine h_ret ?_
                refine h_call ?_
                refine h_cons ?_
                refine h_var rfl ?_
                refine h_nil ?_
                refine ⟨B45, u22, x20, w, rfl, r23, (P.bind).mono (fun x51 P => ?_) (fun _ z => z)⟩
                refine fun v55 B52 H53 s54 r56 => ?_
                replace r19 := r19.mono s54.ex
                replace r23 := r23.mono s54.ex
                replace r27 := r27.mono s54.ex
                replace st := st.go s54 go0
                replace w := s54.ok
                cases r56
                exact P.ok _ _ _ st (Rep.bl _)
theorem ok_is_edits {f : Addr} {fd : FuncData}  (F : Fun K "is_edits" "is_edits" s_is_edits f fd) {f_is_edit : Addr} {d_is_edit : FuncData} (g_is_edit : mg "is_edit" = some (.ref f_is_edit)) (k_is_edit : PySem.W.keepIn K (.ref f_is_edit) = true) (b_is_edit : L2.Binds K d_is_edit ["thing"] []) (G_is_edit : FnOk Pr wo K mg base CX0 4 f_is_edit d_is_edit ["thing"] (sp_is_edit K)) (bI_isinstance : mg "isinstance" = none) (bI_list : mg "list" = none) (bI_all : mg "all" = none) : FnOk Pr wo K mg base CX0 5 f fd ["thing"] (sp_is_edits K) := by
  refine F.ok sc_is_edits (fun vs H Q E h => ?_) (fun cdv A outer s H0 vs Q E hr h => ?_)
  · obtain ⟨_, _, _, _, rfl, _⟩ := h; rfl
  · obtain ⟨B0, v_thing, a_thing, w, rfl, r_thing, P⟩ := h
    have w0 := w
    have hu := hu_of hr
    have hu64 := hu64_of hr
    have hu65 := hu65_of hr
    have hr4 : Room 4 _ := hr.mono (by decide)
    refine ⟨_, (pss_one (ps_ret (pe_and (pe_callB (r := rIsi K) call_isi (by rfl) bI_isinstance PyProof.Rows.boot_isinstance (pa_cons (pv 0) (pa_cons (pe_bltn (v := .ty "list") (by rfl) bI_list Y.boot_list rfl) pa_nil))) (pe_one (pe_callB (r := rAll K) (cr_all rfl) (by rfl) bI_all PyProof.Rows.boot_all (pa_cons (pe_lc (own := [("edit", 1)]) rfl sc_is_edits.nd (pi_list (pv 0)) (blkOk_by (N := ["thing", "edit"]) (sc := defScope s_is_edits) (by decide +kernel)) (fun _ _ _ _ _ => (pg_name (i := 1) sc_is_edits.nd rfl (by first | exact Or.inl rfl | exact Or.inr rfl))) (fun _ _ _ _ _ => pts_nil) (fun _ _ _ _ _ => (pe_call G_is_edit hr4 rfl g_is_edit k_is_edit b_is_edit .nil pass0 (pa_cons (pv 1) pa_nil)))) pa_nil)))))), ?_⟩
    unfold m_is_edits at P
    have st := Stp.refl (W := []) w
    refine h_ret ?_
    refine h_and ?_
    refine h_cb ?_
    refine h_cons ?_
    refine h_var rfl ?_
    refine h_cons ?_
    refine h_c ?_
    refine h_nil ?_
    refine isi (t := "list") w (r_thing.mono st.ex) ?_
    refine h_bl ?_
    refine h_ite (fun c1 => ?_) (fun c1 => ?_)
    · replace P := P.iteT c1
      refine h_cb ?_
      refine h_cons ?_
      refine h_lcE ?_
      refine h_var rfl ?_
      obtain ⟨l1, hl2, P⟩ := P.asL
      have rc3 := (r_thing.mono st.ex)
      rw [hl2] at rc3
      obtain ⟨p4, xs5, rfl, hb6, hr7⟩ := Rep.sqB rc3
      refine h_lcL P (w.l hb6) hr7 (fun Dl (acc : List Bool) (a : Unit) H' => ∃ B', Stp [] B0 H0 B' H' ∧ H0 Dl = none ∧ Mu K B' H' Dl (acc.map enc)) (fun Dl hD => ⟨_, Stp.newM w hD, hD, Mu.new w hD .nil⟩) (fun _ _ _ _ j => ?_) ?_ ?_
      · obtain ⟨B17, s18, hD19, m20⟩ := j
        exact s18.ok.l (s18.ex.l hb6)
      · rintro Dl8 N9 T10 x11 v12 acc14 a15 H16 ⟨B17, s18, hD19, m20⟩ r13 hz21 kk22 kn23 P
        have wj25 := w
        have sj24 := s18
        have n26 := st.nn hD19
        replace st := st.go s18 go0
        replace w := s18.ok
        replace r13 := r13.mono s18.ex
        refine h_gname ?_
        refine h_lcT rfl ?_
        refine h_call ?_
        refine h_cons ?_
        refine h_var rfl ?_
        refine h_nil ?_
        refine ⟨B17, v12, x11, w, rfl, r13, (P.bind).mono (fun x27 P => ?_) (fun _ z => z)⟩
        refine fun v31 B28 H29 s30 r32 => ?_
        replace r13 := r13.mono s30.ex
        replace m20 := m20.step s30 nm0
        replace st := st.go s30 go0
        replace sj24 := sj24.go s30 go0
        replace w := s30.ok
        cases r32
        refine h_app (b := x27) w m20 (Rep.bl _) hz21 (fun H33 s34 m20 => ?_)
        replace r13 := r13.mono s34.ex
        replace st := st.go s34 (go1 (.inr n26))
        replace sj24 := sj24.go s34 (go1 (.inr hD19))
        replace w := s34.ok
        exact kk22 x27 () _ ⟨_, sj24, hD19, m20⟩ P.ok
      · rintro Dl8 acc14 a15 H16 ⟨B17, s18, hD19, m20⟩ P
        have n35 := st.nn hD19
        replace st := st.go s18 go0
        replace w := s18.ok
        replace P := P.un2
        obtain ⟨B40, e36, k37, g38, r39⟩ := Mu.keep m20
        replace st := g38 _ _ _ st w0 n35
        replace w := st.ok
        replace r39 : Rep K B40 (.ref Dl8) (enc acc14) := r39
        refine h_nil ?_
        obtain ⟨p41, xs42, hv, hs43, hr44⟩ := Rep.sq w r39
        cases hv
        refine h_all hs43 hr44 ?_
        exact P.ok _ _ _ st (Rep.bl _)
    · replace P := P.iteF c1
      exact P.ok _ _ _ st (Rep.bl _)
theorem ok_sure_edits {f : Addr} {fd : FuncData}  (F : Fun K "sure_edits" "sure_edits" s_sure_edits f fd) {C_NoEdits : Addr} (T_NoEdits : ExcR K mg "NoEdits" C_NoEdits) {f_is_edits : Addr} {d_is_edits : FuncData} (g_is_edits : mg "is_edits" = some (.ref f_is_edits)) (k_is_edits : PySem.W.keepIn K (.ref f_is_edits) = true) (b_is_edits : L2.Binds K d_is_edits ["thing"] []) (G_is_edits : FnOk Pr wo K mg base CX0 5 f_is_edits d_is_edits ["thing"] (sp_is_edits K)) : FnOk Pr wo K mg base (L2.CX Pr wo) 6 f fd ["thing"] (sp_sure_edits K mg) := by
  refine F.okX sc_sure_edits (fun vs H Q E h => ?_) (fun cdv A outer s H0 vs Q E hr h => ?_)
  · obtain ⟨_, _, _, _, rfl, _⟩ := h; rfl
  · obtain ⟨B0, v_thing, a_thing, w, rfl, r_thing, P⟩ := h
    have w0 := w
    have hu := hu_of hr
    have hu64 := hu64_of hr
    have hu65 := hu65_of hr
    have hr5 : Room 5 _ := hr.mono (by decide)
    refine ⟨_, (pss_one (ps_if (pt_not (pt_val (pe_call G_is_edits hr5 rfl g_is_edits k_is_edits b_is_edits .nil pass0 (pa_cons (pv 0) pa_nil)))) (pss_one (ps_raise rfl (takes_of rfl rfl rfl rfl) (pmk_own PySem.F.excBase_ValueError T_NoEdits.ex T_NoEdits.g T_NoEdits.kp (raises_own T_NoEdits.ec.hs T_NoEdits.ty) rfl))) pss_nil)), ?_⟩
    unfold m_sure_edits at P
    have st := Stp.refl (W := []) w
    refine h_if ?_
    refine h_tnot ?_
    refine h_tB ?_
    refine h_call ?_
    refine h_cons ?_
    refine h_var rfl ?_
    refine h_nil ?_
    refine ⟨B0, v_thing, a_thing, w, rfl, (r_thing.mono st.ex), (P.bind.noErr).mono (fun x1 P => ?_) (fun _ z => z.elim)⟩
    refine fun v5 B2 H3 s4 r6 => ?_
    replace st := st.go s4 go0
    replace w := s4.ok
    cases r6
    refine h_bl ?_
    refine h_iteN (fun c1 => ?_) (fun c1 => ?_)
    · replace P := P.iteF c1
      exact P.err _ _ _ T_NoEdits.g st
    · replace P := P.iteT c1
      refine h_next ?_
      exact P.ok _ _ _ st Rep.non
theorem ok_sure_moment {f : Addr} {fd : FuncData}  (F : Fun K "sure_moment" "sure_moment" s_sure_moment f fd) {C_NoMoment : Addr} (T_NoMoment : ExcR K mg "NoMoment" C_NoMoment) {f_is_moment : Addr} {d_is_moment : FuncData} (g_is_moment : mg "is_moment" = some (.ref f_is_moment)) (k_is_moment : PySem.W.keepIn K (.ref f_is_moment) = true) (b_is_moment : L2.Binds K d_is_moment ["thing"] []) (G_is_moment : FnOk Pr wo K mg base CX0 3 f_is_moment d_is_moment ["thing"] (sp_is_moment K)) : FnOk Pr wo K mg base (L2.CX Pr wo) 4 f fd ["thing"] (sp_sure_moment K mg) := by
  refine F.okX sc_sure_moment (fun vs H Q E h => ?_) (fun cdv A outer s H0 vs Q E hr h => ?_)
  · obtain ⟨_, _, _, _, rfl, _⟩ := h; rfl
  · obtain ⟨B0, v_thing, a_thing, w, rfl, r_thing, P⟩ := h
    have w0 := w
    have hu := hu_of hr
    have hu64 := hu64_of hr
    have hu65 := hu65_of hr
    have hr3 : Room 3 _ := hr.mono (by decide)
    refine ⟨_, (pss_one (ps_if (pt_not (pt_val (pe_call G_is_moment hr3 rfl g_is_moment k_is_moment b_is_moment .nil pass0 (pa_cons (pv 0) pa_nil)))) (pss_one (ps_raise rfl (takes_of rfl rfl rfl rfl) (pmk_own PySem.F.excBase_ValueError T_NoMoment.ex T_NoMoment.g T_NoMoment.kp (raises_own T_NoMoment.ec.hs T_NoMoment.ty) rfl))) pss_nil)), ?_⟩
    unfold m_sure_moment at P
    have st := Stp.refl (W := []) w
    refine h_if ?_
    refine h_tnot ?_
    refine h_tB ?_
    refine h_call ?_
    refine h_cons ?_
    refine h_var rfl ?_
    refine h_nil ?_
    refine ⟨B0, v_thing, a_thing, w, rfl, (r_thing.mono st.ex), (P.bind.noErr).mono (fun x1 P => ?_) (fun _ z => z.elim)⟩
    refine fun v5 B2 H3 s4 r6 => ?_
    replace st := st.go s4 go0
    replace w := s4.ok
    cases r6
    refine h_bl ?_
    refine h_iteN (fun c1 => ?_) (fun c1 => ?_)
    · replace P := P.iteF c1
      exact P.err _ _ _ T_NoMoment.g st
    · replace P := P.iteT c1
      refine h_next ?_
      exact P.ok _ _ _ st Rep.non
theorem ok_sure_stretch {f : Addr} {fd : FuncData}  (F : Fun K "sure_stretch" "sure_stretch" s_sure_stretch f fd) {C_NoMoment : Addr} (T_NoMoment : ExcR K mg "NoMoment" C_NoMoment) {f_sure_moment : Addr} {d_sure_moment : FuncData} (g_sure_moment : mg "sure_moment" = some (.ref f_sure_moment)) (k_sure_moment : PySem.W.keepIn K (.ref f_sure_moment) = true) (b_sure_moment : L2.Binds K d_sure_moment ["thing"] []) (G_sure_moment : FnOk Pr wo K mg base (L2.CX Pr wo) 4 f_sure_moment d_sure_moment ["thing"] (sp_sure_moment K mg)) {f_less : Addr} {d_less : FuncData} (g_less : mg "less" = some (.ref f_less)) (k_less : PySem.W.keepIn K (.ref f_less) = true) (b_less : L2.Binds K d_less ["one", "other"] []) (G_less : FnOk Pr wo K mg base CX0 1 f_less d_less ["one", "other"] (sp_less K)) : FnOk Pr wo K mg base (L2.CX Pr wo) 5 f fd ["low", "high"] (sp_sure_stretch K mg) := by
  refine F.okX sc_sure_stretch (fun vs H Q E h => ?_) (fun cdv A outer s H0 vs Q E hr h => ?_)
  · obtain ⟨_, _, _, _, _, _, rfl, _⟩ := h; rfl
  · obtain ⟨B0, v_low, a_low, v_high, a_high, w, rfl, r_low, r_high, P⟩ := h
    have w0 := w
    have hu := hu_of hr
    have hu64 := hu64_of hr
    have hu65 := hu65_of hr
    have hr1 : Room 1 _ := hr.mono (by decide)
    have hr4 : Room 4 _ := hr.mono (by decide)
    refine ⟨_, (pss_cons (ps_expr (pe_callS G_sure_moment hr4 rfl g_sure_moment k_sure_moment b_sure_moment (fun σ => passAt (takes_of rfl rfl rfl rfl) σ) (pa_cons (pv 0) pa_nil)))
      (pss_cons (ps_expr (pe_callS G_sure_moment hr4 rfl g_sure_moment k_sure_moment b_sure_moment (fun σ => passAt (takes_of rfl rfl rfl rfl) σ) (pa_cons (pv 1) pa_nil)))
      (pss_one (ps_if (pt_not (pt_val (pe_call G_less hr1 rfl g_less k_less b_less .nil pass0 (pa_cons (pv 0) (pa_cons (pv 1) pa_nil))))) (pss_one (ps_raise rfl (takes_of rfl rfl rfl rfl) (pmk_own PySem.F.excBase_ValueError T_NoMoment.ex T_NoMoment.g T_NoMoment.kp (raises_own T_NoMoment.ec.hs T_NoMoment.ty) rfl))) pss_nil)))), ?_⟩
    unfold m_sure_stretch at P
    have st := Stp.refl (W := []) w
    refine h_seq ?_
    refine h_drop ?_
    refine h_callS ?_
    refine h_cons ?_
    refine h_var rfl ?_
    refine h_nil ?_
    refine ⟨B0, v_low, a_low, w, rfl, (r_low.mono st.ex), Post.mono2 P.bind (fun e7 P => ?_) (fun x1 P => ?_)⟩
    · skip
      exact fun C B' H' g s => P C B' H' g (st.go s go0)
    refine fun v5 B2 H3 s4 r6 => ?_
    replace st := st.go s4 go0
    replace w := s4.ok
    cases r6
    refine h_nx ?_
    refine h_seq ?_
    refine h_drop ?_
    refine h_callS ?_
    refine h_cons ?_
    refine h_var rfl ?_
    refine h_nil ?_
    refine ⟨B2, v_high, a_high, w, rfl, (r_high.mono st.ex), Post.mono2 P.bind (fun e14 P => ?_) (fun x8 P => ?_)⟩
    · skip
      exact fun C B' H' g s => P C B' H' g (st.go s go0)
    refine fun v12 B9 H10 s11 r13 => ?_
    replace st := st.go s11 go0
    replace w := s11.ok
    cases r13
    refine h_nx ?_
    refine h_if ?_
    refine h_tnot ?_
    refine h_tB ?_
    refine h_call ?_
    refine h_cons ?_
    refine h_var rfl ?_
    refine h_cons ?_
    refine h_var rfl ?_
    refine h_nil ?_
    obtain ⟨x15, hx16, P⟩ := P.asD
    have rc17 := (r_low.mono st.ex)
    rw [hx16] at rc17
    obtain ⟨x18, hx19, P⟩ := P.asD
    have rc20 := (r_high.mono st.ex)
    rw [hx19] at rc20
    refine ⟨B9, v_low, x15, v_high, x18, w, rfl, rc17, rc20, (P.bind.noErr).mono (fun x21 P => ?_) (fun _ z => z.elim)⟩
    refine fun v25 B22 H23 s24 r26 => ?_
    replace st := st.go s24 go0
    replace w := s24.ok
    cases r26
    refine h_bl ?_
    refine h_iteN (fun c1 => ?_) (fun c1 => ?_)
    · replace P := P.iteF c1
      exact P.err _ _ _ T_NoMoment.g st
    · replace P := P.iteT c1
      refine h_next ?_
      exact P.ok _ _ _ st Rep.non
theorem ok_led_by {f : Addr} {fd : FuncData}  (F : Fun K "led_by" "led_by" s_led_by f fd) {f_plus : Addr} {d_plus : FuncData} (g_plus : mg "plus" = some (.ref f_plus)) (k_plus : PySem.W.keepIn K (.ref f_plus) = true) (b_plus : L2.Binds K d_plus ["one", "other"] []) (G_plus : FnOk Pr wo K mg base (L2.CX Pr wo) 3 f_plus d_plus ["one", "other"] (sp_plus K mg)) {f_times : Addr} {d_times : FuncData} (g_times : mg "times" = some (.ref f_times)) (k_times : PySem.W.keepIn K (.ref f_times) = true) (b_times : L2.Binds K d_times ["one", "other"] []) (G_times : FnOk Pr wo K mg base (L2.CX Pr wo) 3 f_times d_times ["one", "other"] (sp_times K mg)) : FnOk Pr wo K mg base (L2.CX Pr wo) 4 f fd ["edit", "later"] (sp_led_by K mg) := by
  refine F.okX sc_led_by (fun vs H Q E h => ?_) (fun cdv A outer s H0 vs Q E hr h => ?_)
  · obtain ⟨_, _, _, _, _, _, rfl, _⟩ := h; rfl
  · obtain ⟨B0, v_edit, a_edit, v_later, a_later, w, rfl, r_edit, r_later, P⟩ := h
    have w0 := w
    have hu := hu_of hr
    have hu64 := hu64_of hr
    have hu65 := hu65_of hr
    have hr3 : Room 3 _ := hr.mono (by decide)
    refine ⟨_, (pss_cons (ps_if (pt_cmpR op_isNn (pe_ix (r := rIxT K) ix_tup (pv 0) pe_int (fun _ _ => rfl)) pe_non (nomark _)) (pss_one (ps_ret pe_non)) pss_nil)
      (pss_one (ps_ret (pe_callS G_plus hr3 rfl g_plus k_plus b_plus (fun σ => passAt (takes_of rfl rfl rfl rfl) σ) (pa_cons (pe_ix (r := rIxT K) ix_tup (pv 0) pe_int (fun _ _ => rfl)) (pa_cons (pe_callS G_times hr3 rfl g_times k_times b_times (fun σ => passAt (takes_of rfl rfl rfl rfl) σ) (pa_cons (pe_ix (r := rIxT K) ix_tup (pv 0) pe_int (fun _ _ => rfl)) (pa_cons (pv 1) pa_nil))) pa_nil)))))), ?_⟩
    unfold m_led_by at P
    have st := Stp.refl (W := []) w
    refine h_seq <| h_if ?_
    refine h_test ?_
    refine h_op ?_
    refine h_op ?_
    refine h_var rfl ?_
    refine h_c ?_
    obtain ⟨p1, xs2, rfl, hs3, hr4⟩ := Rep.st w (r_edit.mono st.ex)
    obtain ⟨u5, hu, r6⟩ := RepL.at hr4 (i := 1) rfl
    refine h_ixT hs3 hu ?_
    refine h_c ?_
    refine h_isN r6 ?_
    refine h_bl ?_
    refine h_ite (fun c1 => ?_) (fun c1 => ?_)
    · replace P := P.iteT c1
      refine h_ret ?_
      refine h_c ?_
      exact P.ok _ _ _ st Rep.non
    · replace P := P.iteF c1
      refine h_next ?_
      refine h_nx ?_
      refine h_ret ?_
      refine h_callS ?_
      refine h_cons ?_
      refine h_op ?_
      refine h_var rfl ?_
      refine h_c ?_
      obtain ⟨p7, xs8, hv, hs9, hr10⟩ := Rep.st w (r_edit.mono st.ex)
      cases hv
      obtain ⟨u11, hu, r12⟩ := RepL.at hr10 (i := 1) rfl
      refine h_ixT hs9 hu ?_
      refine h_cons ?_
      refine h_callS ?_
      refine h_cons ?_
      refine h_op ?_
      refine h_var rfl ?_
      refine h_c ?_
      obtain ⟨p13, xs14, hv, hs15, hr16⟩ := Rep.st w (r_edit.mono st.ex)
      cases hv
      obtain ⟨u17, hu, r18⟩ := RepL.at hr16 (i := 2) rfl
      refine h_ixT hs15 hu ?_
      refine h_cons ?_
      refine h_var rfl ?_
      refine h_nil ?_
      refine ⟨B0, u17, a_edit.c, v_later, a_later, w, rfl, r18, (r_later.mono st.ex), Post.mono2 P.bind (fun e25 P => ?_) (fun x19 P => ?_)⟩
      · skip
        exact fun C B' H' g s => P C B' H' g (st.go s go0)
      refine fun v23 B20 H21 s22 r24 => ?_
      replace r12 := r12.mono s22.ex
      replace r18 := r18.mono s22.ex
      replace st := st.go s22 go0
      replace w := s22.ok
      refine h_nil ?_
      obtain ⟨x26, hx27, P⟩ := P.some
      have rc28 := r12
      rw [hx27] at rc28
      replace rc28 : Rep K B20 u11 (enc x26) := rc28
      refine ⟨B20, u11, x26, v23, x19, w, rfl, rc28, r24, Post.mono2 P.bind (fun e35 P => ?_) (fun x29 P => ?_)⟩
      · skip
        exact fun C B' H' g s => P C B' H' g (st.go s go0)
      refine fun v33 B30 H31 s32 r34 => ?_
      replace r12 := r12.mono s32.ex
      replace r24 := r24.mono s32.ex
      replace st := st.go s32 go0
      replace w := s32.ok
      exact P.ok _ _ _ st r34
theorem ok_total__any {f : Addr} {fd : FuncData}  (F : Fun K "total" "total" s_total__any f fd) {f_sure_edits : Addr} {d_sure_edits : FuncData} (g_sure_edits : mg "sure_edits" = some (.ref f_sure_edits)) (k_sure_edits : PySem.W.keepIn K (.ref f_sure_edits) = true) (b_sure_edits : L2.Binds K d_sure_edits ["thing"] []) (G_sure_edits : FnOk Pr wo K mg base (L2.CX Pr wo) 6 f_sure_edits d_sure_edits ["thing"] (sp_sure_edits K mg)) : FnOk Pr wo K mg base (L2.CX Pr wo) 7 f fd ["edits"] (sp_total__any K mg) := by
  refine F.okX sc_total__any (fun vs H Q E h => ?_) (fun cdv A outer s H0 vs Q E hr h => ?_)
  · obtain ⟨_, _, _, _, rfl, _⟩ := h; rfl
  · obtain ⟨B0, v_edits, a_edits, w, rfl, r_edits, P⟩ := h
    have w0 := w
    have hu := hu_of hr
    have hu64 := hu64_of hr
    have hu65 := hu65_of hr
    have hr6 : Room 6 _ := hr.mono (by decide)
    refine ⟨_, (pss_cons (ps_expr (pe_callS G_sure_edits hr6 rfl g_sure_edits k_sure_edits b_sure_edits (fun σ => passAt (takes_of rfl rfl rfl rfl) σ) (pa_cons (pv 0) pa_nil)))
      pss_unreached), ?_⟩
    unfold m_total__any at P
    have st := Stp.refl (W := []) w
    refine h_seq ?_
    refine h_drop ?_
    refine h_callS ?_
    refine h_cons ?_
    refine h_var rfl ?_
    refine h_nil ?_
    refine ⟨B0, v_edits, a_edits, w, rfl, (r_edits.mono st.ex), Post.mono2 P.bind (fun e7 P => ?_) (fun x1 P => ?_)⟩
    · skip
      exact fun C B' H' g s => P C B' H' g (st.go s go0)
    refine fun v5 B2 H3 s4 r6 => ?_
    replace st := st.go s4 go0
    replace w := s4.ok
    cases r6
    refine h_nx ?_
    exact P.elim
theorem ok_total {f : Addr} {fd : FuncData}  (F : Fun K "total" "total" s_total f fd) {C_NOUGHT : Addr} (c_NOUGHT : CT K mg "NOUGHT" C_NOUGHT (⟨0, 1⟩ : (Tp2 Int Int))) {f_sure_edits : Addr} {d_sure_edits : FuncData} (g_sure_edits : mg "sure_edits" = some (.ref f_sure_edits)) (k_sure_edits : PySem.W.keepIn K (.ref f_sure_edits) = true) (b_sure_edits : L2.Binds K d_sure_edits ["thing"] []) (G_sure_edits : FnOk Pr wo K mg base (L2.CX Pr wo) 6 f_sure_edits d_sure_edits ["thing"] (sp_sure_edits K mg)) {f_plus : Addr} {d_plus : FuncData} (g_plus : mg "plus" = some (.ref f_plus)) (k_plus : PySem.W.keepIn K (.ref f_plus) = true) (b_plus : L2.Binds K d_plus ["one", "other"] []) (G_plus : FnOk Pr wo K mg base (L2.CX Pr wo) 3 f_plus d_plus ["one", "other"] (sp_plus K mg)) : FnOk Pr wo K mg base (L2.CX Pr wo) 7 f fd ["edits"] (sp_total K mg) := by
  refine F.okX sc_total (fun vs H Q E h => ?_) (fun cdv A outer s H0 vs Q E hr h => ?_)
  · obtain ⟨_, _, _, _, rfl, _⟩ := h; rfl
  · obtain ⟨B0, v_edits, a_edits, w, rfl, r_edits, P⟩ := h
    have w0 := w
    have hu := hu_of hr
    have hu64 := hu64_of hr
    have hu65 := hu65_of hr
    have hr3 : Room 3 _ := hr.mono (by decide)
    have hr6 : Room 6 _ := hr.mono (by decide)
    refine ⟨_, (pss_cons (ps_expr (pe_callS G_sure_edits hr6 rfl g_sure_edits k_sure_edits b_sure_edits (fun σ => passAt (takes_of rfl rfl rfl rfl) σ) (pa_cons (pv 0) pa_nil)))
      (pss_cons (ps_set (i := 1) sc_total.nd rfl (by first | exact Or.inl rfl | exact Or.inr rfl) (pe_glob (v := .ref C_NOUGHT) (by rfl) c_NOUGHT.g rfl))
      (pss_cons (ps_for (passes_of rfl) rfl (pi_list (pv 0)) (pg_name (i := 2) sc_total.nd rfl (by first | exact Or.inl rfl | exact Or.inr rfl)) (pss_one (ps_set (i := 1) sc_total.nd rfl (by first | exact Or.inl rfl | exact Or.inr rfl) (pe_callS G_plus hr3 rfl g_plus k_plus b_plus (fun σ => passAt (takes_of rfl rfl rfl rfl) σ) (pa_cons (pv 1) (pa_cons (pe_ix (r := rIxT K) ix_tup (pv 2) pe_int (fun _ _ => rfl)) pa_nil))))))
      (pss_one (ps_ret (pv 1)))))), ?_⟩
    unfold m_total at P
    have st := Stp.refl (W := []) w
    refine h_seq ?_
    refine h_drop ?_
    refine h_callS ?_
    refine h_cons ?_
    refine h_var rfl ?_
    refine h_nil ?_
    refine ⟨B0, v_edits, (enc a_edits), w, rfl, (r_edits.mono st.ex), Post.mono2 P.bind (fun e7 P => ?_) (fun x1 P => ?_)⟩
    · skip
      exact fun C B' H' g s => P C B' H' g (st.go s go0)
    refine fun v5 B2 H3 s4 r6 => ?_
    replace st := st.go s4 go0
    replace w := s4.ok
    cases r6
    refine h_nx ?_
    refine h_set ?_
    refine h_c ?_
    have r8 := c_NOUGHT.rep B2
    refine h_seq ?_
    refine h_forE ?_
    refine h_var rfl ?_
    obtain ⟨p9, xs10, rfl, hb11, hr12⟩ := Rep.sqB (r_edits.mono st.ex)
    have wj14 := w
    have sj13 := Stp.refl (W := []) w
    refine h_forL P (w.l hb11) hr12 (fun (a : (Tp2 Int Int)) σ' H' => ∃ (B' : Hp) (v0 : V) (o_edit : Option V), Stp [] B2 H3 B' H' ∧ σ' = [some ((.ref p9)), some v0, o_edit] ∧ Rep K B' v0 (enc a)) ⟨_, (.ref C_NOUGHT), _, sj13, rfl, r8⟩ (fun _ _ _ j => ?_) ?_ ?_
    · obtain ⟨B24, v27, o29, s26, rfl, r28⟩ := j
      exact s26.ok.l (s26.ex.l hb11)
    · rintro N15 T16 x21 v22 a20 _ H25 ⟨B24, v27, o29, s26, rfl, r28⟩ r23 kk17 kr18 kb19 P
      replace st := st.go s26 go0
      replace w := s26.ok
      have sj13 := s26
      replace r23 := r23.mono sj13.ex
      refine h_gname ?_
      refine h_set1 ?_
      refine h_callS ?_
      refine h_cons ?_
      refine h_var rfl ?_
      refine h_cons ?_
      refine h_op ?_
      refine h_var rfl ?_
      refine h_c ?_
      obtain ⟨p30, xs31, rfl, hs32, hr33⟩ := Rep.st w r23
      obtain ⟨u34, hu, r35⟩ := RepL.at hr33 (i := 0) rfl
      refine h_ixT hs32 hu ?_
      refine h_nil ?_
      refine ⟨B24, v27, a20, u34, x21.a, w, rfl, r28, r35, Post.mono2 P.bind (fun e42 P => ?_) (fun x36 P => ?_)⟩
      · skip
        exact fun C B' H' g s => P C B' H' g (st.go s go0)
      refine fun v40 B37 H38 s39 r41 => ?_
      replace r28 := r28.mono s39.ex
      replace r23 := r23.mono s39.ex
      replace r35 := r35.mono s39.ex
      replace st := st.go s39 go0
      replace sj13 := sj13.go s39 go0
      replace w := s39.ok
      refine h_nx ?_
      exact kk17 x36 _ _ ⟨_, v40, _, sj13, rfl, r41⟩ P.ok
    · rintro a43 _ H45 ⟨B44, v47, o49, s46, rfl, r48⟩ P
      replace st := st.go s46 go0
      replace w := s46.ok
      refine h_nx ?_
      refine h_ret ?_
      refine h_var rfl ?_
      exact P.ok _ _ _ st r48
theorem ok_mapped__any {f : Addr} {fd : FuncData}  (F : Fun K "mapped" "mapped" s_mapped__any f fd) {f_sure_edits : Addr} {d_sure_edits : FuncData} (g_sure_edits : mg "sure_edits" = some (.ref f_sure_edits)) (k_sure_edits : PySem.W.keepIn K (.ref f_sure_edits) = true) (b_sure_edits : L2.Binds K d_sure_edits ["thing"] []) (G_sure_edits : FnOk Pr wo K mg base (L2.CX Pr wo) 6 f_sure_edits d_sure_edits ["thing"] (sp_sure_edits K mg)) {f_sure_moment : Addr} {d_sure_moment : FuncData} (g_sure_moment : mg "sure_moment" = some (.ref f_sure_moment)) (k_sure_moment : PySem.W.keepIn K (.ref f_sure_moment) = true) (b_sure_moment : L2.Binds K d_sure_moment ["thing"] []) (G_sure_moment : FnOk Pr wo K mg base (L2.CX Pr wo) 4 f_sure_moment d_sure_moment ["thing"] (sp_sure_moment K mg)) : FnOk Pr wo K mg base (L2.CX Pr wo) 7 f fd ["edits", "t"] (sp_mapped__any K mg) := by
  refine F.okX sc_mapped__any (fun vs H Q E h => ?_) (fun cdv A outer s H0 vs Q E hr h => ?_)
  · obtain ⟨_, _, _, _, _, _, rfl, _⟩ := h; rfl
  · obtain ⟨B0, v_edits, a_edits, v_t, a_t, w, rfl, r_edits, r_t, P⟩ := h
    have w0 := w
    have hu := hu_of hr
    have hu64 := hu64_of hr
    have hu65 := hu65_of hr
    have hr4 : Room 4 _ := hr.mono (by decide)
    have hr6 : Room 6 _ := hr.mono (by decide)
    refine ⟨_, (pss_cons (ps_expr (pe_callS G_sure_edits hr6 rfl g_sure_edits k_sure_edits b_sure_edits (fun σ => passAt (takes_of rfl rfl rfl rfl) σ) (pa_cons (pv 0) pa_nil)))
      (pss_cons (ps_expr (pe_callS G_sure_moment hr4 rfl g_sure_moment k_sure_moment b_sure_moment (fun σ => passAt (takes_of rfl rfl rfl rfl) σ) (pa_cons (pv 1) pa_nil)))
      pss_unreached)), ?_⟩
    unfold m_mapped__any at P
    have st := Stp.refl (W := []) w
    refine h_seq ?_
    refine h_drop ?_
    refine h_callS ?_
    refine h_cons ?_
    refine h_var rfl ?_
    refine h_nil ?_
    refine ⟨B0, v_edits, a_edits, w, rfl, (r_edits.mono st.ex), Post.mono2 P.bind (fun e7 P => ?_) (fun x1 P => ?_)⟩
    · skip
      exact fun C B' H' g s => P C B' H' g (st.go s go0)
    refine fun v5 B2 H3 s4 r6 => ?_
    replace st := st.go s4 go0
    replace w := s4.ok
    cases r6
    refine h_nx ?_
    refine h_seq ?_
    refine h_drop ?_
    refine h_callS ?_
    refine h_cons ?_
    refine h_var rfl ?_
    refine h_nil ?_
    refine ⟨B2, v_t, a_t, w, rfl, (r_t.mono st.ex), Post.mono2 P.bind (fun e14 P => ?_) (fun x8 P => ?_)⟩
    · skip
      exact fun C B' H' g s => P C B' H' g (st.go s go0)
    refine fun v12 B9 H10 s11 r13 => ?_
    replace st := st.go s11 go0
    replace w := s11.ok
    cases r13
    refine h_nx ?_
    exact P.elim
theorem ok_goes_on {f : Addr} {fd : FuncData}  (F : Fun K "goes_on" "goes_on" s_goes_on f fd) {f_led_by : Addr} {d_led_by : FuncData} (g_led_by : mg "led_by" = some (.ref f_led_by)) (k_led_by : PySem.W.keepIn K (.ref f_led_by) = true) (b_led_by : L2.Binds K d_led_by ["edit", "later"] []) (G_led_by : FnOk Pr wo K mg base (L2.CX Pr wo) 4 f_led_by d_led_by ["edit", "later"] (sp_led_by K mg)) : FnOk Pr wo K mg base (L2.CX Pr wo) 5 f fd ["one", "other"] (sp_goes_on K mg) := by
  refine F.okX sc_goes_on (fun vs H Q E h => ?_) (fun cdv A outer s H0 vs Q E hr h => ?_)
  · obtain ⟨_, _, _, _, _, _, rfl, _⟩ := h; rfl
  · obtain ⟨B0, v_one, a_one, v_other, a_other, w, rfl, r_one, r_other, P⟩ := h
    have w0 := w
    have hu := hu_of hr
    have hu64 := hu64_of hr
    have hu65 := hu65_of hr
    have hr4 : Room 4 _ := hr.mono (by decide)
    refine ⟨_, (pss_cons (ps_if (PW.pt (pw_or (pt_cmpR op_isNn (pe_ix (r := rIxT K) ix_tup (pv 0) pe_int (fun _ _ => rfl)) pe_non (nomark _)) (pw_or1 (pt_cmpR op_isNn (pe_ix (r := rIxT K) ix_tup (pv 1) pe_int (fun _ _ => rfl)) pe_non (nomark _))))) (pss_one (ps_ret (pe_and (pe_cmpR op_isNn (pe_ix (r := rIxT K) ix_tup (pv 0) pe_int (fun _ _ => rfl)) pe_non (nomark _)) (pe_one (pe_cmpR op_isNn (pe_ix (r := rIxT K) ix_tup (pv 1) pe_int (fun _ _ => rfl)) pe_non (nomark _)))))) pss_nil)
      (pss_one (ps_ret (pe_and (pe_cmpR (r := rEqD K) (op_eqD hu64) (pe_ix (r := rIxT K) ix_tup (pv 0) pe_int (fun _ _ => rfl)) (pe_ix (r := rIxT K) ix_tup (pv 1) pe_int (fun _ _ => rfl)) (nomark _)) (pe_one (pe_cmpR (r := rEqD K) (op_eqD hu64) (pe_ix (r := rIxT K) ix_tup (pv 1) pe_int (fun _ _ => rfl)) (pe_callS G_led_by hr4 rfl g_led_by k_led_by b_led_by (fun σ => passAt (takes_of rfl rfl rfl rfl) σ) (pa_cons (pv 0) (pa_cons (pe_ix (r := rIxT K) ix_tup (pv 0) pe_int (fun _ _ => rfl)) pa_nil))) (nomark _))))))), ?_⟩
    unfold m_goes_on at P
    have st := Stp.refl (W := []) w
    refine h_seq <| h_if ?_
    have wj2 := w
    have sj1 := Stp.refl (W := []) w
    refine h_condJ P (fun H' => ∃ B', Stp [] B0 H0 B' H') (fun N kk3 P => ?_) ?_
    · skip
      refine h_tor ?_
      refine h_test ?_
      refine h_op ?_
      refine h_op ?_
      refine h_var rfl ?_
      refine h_c ?_
      obtain ⟨p4, xs5, rfl, hs6, hr7⟩ := Rep.st w (r_one.mono st.ex)
      obtain ⟨u8, hu, r9⟩ := RepL.at hr7 (i := 1) rfl
      refine h_ixT hs6 hu ?_
      refine h_c ?_
      refine h_isN r9 ?_
      refine h_bl ?_
      refine h_ite (fun c1 => ?_) (fun c1 => ?_)
      · replace P := P.iteT c1
        exact kk3 _ _ ⟨_, sj1⟩ P.ok
      · replace P := P.iteF c1
        refine h_test ?_
        refine h_op ?_
        refine h_op ?_
        refine h_var rfl ?_
        refine h_c ?_
        obtain ⟨p10, xs11, rfl, hs12, hr13⟩ := Rep.st w (r_other.mono st.ex)
        obtain ⟨u14, hu, r15⟩ := RepL.at hr13 (i := 1) rfl
        refine h_ixT hs12 hu ?_
        refine h_c ?_
        refine h_isN r15 ?_
        refine h_bl ?_
        exact kk3 _ _ ⟨_, sj1⟩ P.ok
    rintro b16 H18 ⟨B17, s19⟩ P
    replace st := st.go s19 go0
    replace w := s19.ok
    refine h_ite (fun c1 => ?_) (fun c1 => ?_)
    · replace P := P.iteT c1
      refine h_ret ?_
      refine h_and ?_
      refine h_op ?_
      refine h_op ?_
      refine h_var rfl ?_
      refine h_c ?_
      obtain ⟨p20, xs21, rfl, hs22, hr23⟩ := Rep.st w (r_one.mono st.ex)
      obtain ⟨u24, hu, r25⟩ := RepL.at hr23 (i := 1) rfl
      refine h_ixT hs22 hu ?_
      refine h_c ?_
      refine h_isN r25 ?_
      refine h_bl ?_
      refine h_ite (fun c1 => ?_) (fun c1 => ?_)
      · replace P := P.iteT c1
        refine h_op ?_
        refine h_op ?_
        refine h_var rfl ?_
        refine h_c ?_
        obtain ⟨p26, xs27, rfl, hs28, hr29⟩ := Rep.st w (r_other.mono st.ex)
        obtain ⟨u30, hu, r31⟩ := RepL.at hr29 (i := 1) rfl
        refine h_ixT hs28 hu ?_
        refine h_c ?_
        refine h_isN r31 ?_
        exact P.ok _ _ _ st (Rep.bl _)
      · replace P := P.iteF c1
        exact P.ok _ _ _ st (Rep.bl _)
    · replace P := P.iteF c1
      refine h_next ?_
      refine h_nx ?_
      refine h_ret ?_
      refine h_and ?_
      refine h_op ?_
      refine h_op ?_
      refine h_var rfl ?_
      refine h_c ?_
      obtain ⟨p32, xs33, rfl, hs34, hr35⟩ := Rep.st w (r_one.mono st.ex)
      obtain ⟨u36, hu, r37⟩ := RepL.at hr35 (i := 2) rfl
      refine h_ixT hs34 hu ?_
      refine h_op ?_
      refine h_var rfl ?_
      refine h_c ?_
      obtain ⟨p38, xs39, rfl, hs40, hr41⟩ := Rep.st w (r_other.mono st.ex)
      obtain ⟨u42, hu, r43⟩ := RepL.at hr41 (i := 2) rfl
      refine h_ixT hs40 hu ?_
      obtain ⟨gd, P⟩ := P.guard
      refine h_eqD (d := (enc a_one.c)) (e := (enc a_other.c)) w r37 r43 gd ?_
      refine h_bl ?_
      refine h_ite (fun c1 => ?_) (fun c1 => ?_)
      · replace P := P.iteT c1
        refine h_op ?_
        refine h_op ?_
        refine h_var rfl ?_
        refine h_c ?_
        obtain ⟨p44, xs45, hv, hs46, hr47⟩ := Rep.st w (r_other.mono st.ex)
        cases hv
        obtain ⟨u48, hu, r49⟩ := RepL.at hr47 (i := 1) rfl
        refine h_ixT hs46 hu ?_
        refine h_callS ?_
        refine h_cons ?_
        refine h_var rfl ?_
        refine h_cons ?_
        refine h_op ?_
        refine h_var rfl ?_
        refine h_c ?_
        obtain ⟨p50, xs51, hv, hs52, hr53⟩ := Rep.st w (r_one.mono st.ex)
        cases hv
        obtain ⟨u54, hu, r55⟩ := RepL.at hr53 (i := 0) rfl
        refine h_ixT hs52 hu ?_
        refine h_nil ?_
        refine ⟨B17, (.ref p32), a_one, u54, a_one.a, w, rfl, (r_one.mono st.ex), r55, Post.mono2 P.bind (fun e62 P => ?_) (fun x56 P => ?_)⟩
        · skip
          exact fun C B' H' g s => P C B' H' g (st.go s go0)
        refine fun v60 B57 H58 s59 r61 => ?_
        replace r49 := r49.mono s59.ex
        replace r55 := r55.mono s59.ex
        replace st := st.go s59 go0
        replace w := s59.ok
        obtain ⟨gd, P⟩ := P.guard
        refine h_eqD (d := (enc a_other.b)) (e := (enc x56)) w r49 r61 gd ?_
        exact P.ok _ _ _ st (Rep.bl _)
      · replace P := P.iteF c1
        exact P.ok _ _ _ st (Rep.bl _)
theorem ok_tidy__any {f : Addr} {fd : FuncData}  (F : Fun K "tidy" "tidy" s_tidy__any f fd) {f_sure_edits : Addr} {d_sure_edits : FuncData} (g_sure_edits : mg "sure_edits" = some (.ref f_sure_edits)) (k_sure_edits : PySem.W.keepIn K (.ref f_sure_edits) = true) (b_sure_edits : L2.Binds K d_sure_edits ["thing"] []) (G_sure_edits : FnOk Pr wo K mg base (L2.CX Pr wo) 6 f_sure_edits d_sure_edits ["thing"] (sp_sure_edits K mg)) : FnOk Pr wo K mg base (L2.CX Pr wo) 7 f fd ["edits"] (sp_tidy__any K mg) := by
  refine F.okX sc_tidy__any (fun vs H Q E h => ?_) (fun cdv A outer s H0 vs Q E hr h => ?_)
  · obtain ⟨_, _, _, _, rfl, _⟩ := h; rfl
  · obtain ⟨B0, v_edits, a_edits, w, rfl, r_edits, P⟩ := h
    have w0 := w
    have hu := hu_of hr
    have hu64 := hu64_of hr
    have hu65 := hu65_of hr
    have hr6 : Room 6 _ := hr.mono (by decide)
    refine ⟨_, (pss_cons (ps_expr (pe_callS G_sure_edits hr6 rfl g_sure_edits k_sure_edits b_sure_edits (fun σ => passAt (takes_of rfl rfl rfl rfl) σ) (pa_cons (pv 0) pa_nil)))
      pss_unreached), ?_⟩
    unfold m_tidy__any at P
    have st := Stp.refl (W := []) w
    refine h_seq ?_
    refine h_drop ?_
    refine h_callS ?_
    refine h_cons ?_
    refine h_var rfl ?_
    refine h_nil ?_
    refine ⟨B0, v_edits, a_edits, w, rfl, (r_edits.mono st.ex), Post.mono2 P.bind (fun e7 P => ?_) (fun x1 P => ?_)⟩
    · skip
      exact fun C B' H' g s => P C B' H' g (st.go s go0)
    refine fun v5 B2 H3 s4 r6 => ?_
    replace st := st.go s4 go0
    replace w := s4.ok
    cases r6
    refine h_nx ?_
    exact P.elim
theorem ok_tidy {f : Addr} {fd : FuncData}  (F : Fun K "tidy" "tidy" s_tidy f fd) {f_sure_edits : Addr} {d_sure_edits : FuncData} (g_sure_edits : mg "sure_edits" = some (.ref f_sure_edits)) (k_sure_edits : PySem.W.keepIn K (.ref f_sure_edits) = true) (b_sure_edits : L2.Binds K d_sure_edits ["thing"] []) (G_sure_edits : FnOk Pr wo K mg base (L2.CX Pr wo) 6 f_sure_edits d_sure_edits ["thing"] (sp_sure_edits K mg)) {f_goes_on : Addr} {d_goes_on : FuncData} (g_goes_on : mg "goes_on" = some (.ref f_goes_on)) (k_goes_on : PySem.W.keepIn K (.ref f_goes_on) = true) (b_goes_on : L2.Binds K d_goes_on ["one", "other"] []) (G_goes_on : FnOk Pr wo K mg base (L2.CX Pr wo) 5 f_goes_on d_goes_on ["one", "other"] (sp_goes_on K mg)) {f_plus : Addr} {d_plus : FuncData} (g_plus : mg "plus" = some (.ref f_plus)) (k_plus : PySem.W.keepIn K (.ref f_plus) = true) (b_plus : L2.Binds K d_plus ["one", "other"] []) (G_plus : FnOk Pr wo K mg base (L2.CX Pr wo) 3 f_plus d_plus ["one", "other"] (sp_plus K mg)) : FnOk Pr wo K mg base (L2.CX Pr wo) 7 f fd ["edits"] (sp_tidy K mg) := by
  refine F.okX sc_tidy (fun vs H Q E h => ?_) (fun cdv A outer s H0 vs Q E hr h => ?_)
  · obtain ⟨_, _, _, _, rfl, _⟩ := h; rfl
  · obtain ⟨B0, v_edits, a_edits, w, rfl, r_edits, P⟩ := h
    have w0 := w
    have hu := hu_of hr
    have hu64 := hu64_of hr
    have hu65 := hu65_of hr
    have hr3 : Room 3 _ := hr.mono (by decide)
    have hr5 : Room 5 _ := hr.mono (by decide)
    have hr6 : Room 6 _ := hr.mono (by decide)
    refine ⟨_, (pss_cons (ps_expr (pe_callS G_sure_edits hr6 rfl g_sure_edits k_sure_edits b_sure_edits (fun σ => passAt (takes_of rfl rfl rfl rfl) σ) (pa_cons (pv 0) pa_nil)))
      (pss_cons (ps_set (i := 1) sc_tidy.nd rfl (by first | exact Or.inl rfl | exact Or.inr rfl) (pe_lst pa_nil))
      (pss_cons (ps_for (passes_of rfl) rfl (pi_list (pv 0)) (pg_name (i := 2) sc_tidy.nd rfl (by first | exact Or.inl rfl | exact Or.inr rfl)) (pss_cons (ps_if (PW.pt (pw_and (pt_cmpR (r := rNeD K) (op_neD hu64) (pv 1) (pe_lst pa_nil) (nomark _)) (pw_and1 (pt_val (pe_callS G_goes_on hr5 rfl g_goes_on k_goes_on b_goes_on (fun σ => passAt (takes_of rfl rfl rfl rfl) σ) (pa_cons (pe_ix (r := rIxL K) ix_list (pv 1) (pe_un un_neg pe_int) (fun _ _ => rfl)) (pa_cons (pv 2) pa_nil))))))) (pss_cons (ps_set (i := 3) sc_tidy.nd rfl (by first | exact Or.inl rfl | exact Or.inr rfl) (pe_bm0 PySem.F.plainAttrs_list PySem.F.slot_list_pop PySem.F.type_list_pop mt_pop (pv 1)))
      (pss_one (ps_set (i := 2) sc_tidy.nd rfl (by first | exact Or.inl rfl | exact Or.inr rfl) (pe_tup (pa_cons (pe_callS G_plus hr3 rfl g_plus k_plus b_plus (fun σ => passAt (takes_of rfl rfl rfl rfl) σ) (pa_cons (pe_ix (r := rIxT K) ix_tup (pv 3) pe_int (fun _ _ => rfl)) (pa_cons (pe_ix (r := rIxT K) ix_tup (pv 2) pe_int (fun _ _ => rfl)) pa_nil))) (pa_cons (pe_ix (r := rIxT K) ix_tup (pv 3) pe_int (fun _ _ => rfl)) (pa_cons (pe_ix (r := rIxT K) ix_tup (pv 3) pe_int (fun _ _ => rfl)) pa_nil))))))) pss_nil)
      (pss_one (ps_expr (pe_bm PySem.F.plainAttrs_list PySem.F.slot_list_append PySem.F.type_list_append mt_append (pv 1) (pa_cons (pv 2) pa_nil))))))
      (pss_cons (ps_if (PW.pt (pw_and (pt_cmpR (r := rNeD K) (op_neD hu64) (pv 1) (pe_lst pa_nil) (nomark _)) (pw_and1 (pt_cmpR op_isNn (pe_ix (r := rIxT K) ix_tup (pe_ix (r := rIxL K) ix_list (pv 1) (pe_un un_neg pe_int) (fun _ _ => rfl)) pe_int (fun _ _ => rfl)) pe_non (nomark _))))) (pss_one (ps_expr (pe_bm0 PySem.F.plainAttrs_list PySem.F.slot_list_pop PySem.F.type_list_pop mt_pop (pv 1)))) pss_nil)
      (pss_one (ps_ret (pv 1))))))), ?_⟩
    unfold m_tidy at P
    have st := Stp.refl (W := []) w
    refine h_seq ?_
    refine h_drop ?_
    refine h_callS ?_
    refine h_cons ?_
    refine h_var rfl ?_
    refine h_nil ?_
    refine ⟨B0, v_edits, (enc a_edits), w, rfl, (r_edits.mono st.ex), Post.mono2 P.bind (fun e7 P => ?_) (fun x1 P => ?_)⟩
    · skip
      exact fun C B' H' g s => P C B' H' g (st.go s go0)
    refine fun v5 B2 H3 s4 r6 => ?_
    replace st := st.go s4 go0
    replace w := s4.ok
    cases r6
    refine h_nx ?_
    refine h_set ?_
    refine h_lst ?_
    refine h_nil ?_
    refine h_newM w (ds := (([] : List (Tp3 (Tp2 Int Int) (Option (Tp2 Int Int)) (Tp2 Int Int)))).map enc) (K := K) .nil (fun p8 H9 hn12 s10 m11 => ?_) (by show 0 ≤ sizeLine; decide)
    have n13 := st.nn hn12
    replace st := st.go s10 go0
    replace w := s10.ok
    refine h_seq ?_
    refine h_forE ?_
    refine h_var rfl ?_
    obtain ⟨p14, xs15, rfl, hb16, hr17⟩ := Rep.sqB (r_edits.mono st.ex)
    have wj19 := w
    have sj18 := Stp.refl (W := [p8]) w
    refine h_forL P (w.l hb16) hr17 (fun (a : (List (Tp3 (Tp2 Int Int) (Option (Tp2 Int Int)) (Tp2 Int Int)))) σ' H' => ∃ (B' : Hp) (o_before : Option V) (o_edit : Option V), Stp [p8] B2 H9 B' H' ∧ σ' = [some ((.ref p14)), some ((.ref p8)), o_edit, o_before] ∧ Mu K B' H' p8 (a.map enc)) ⟨_, _, _, sj18, rfl, m11⟩ (fun _ _ _ j => ?_) ?_ ?_
    · obtain ⟨B29, o32, o33, s31, rfl, m11⟩ := j
      exact s31.ok.l (s31.ex.l hb16)
    · rintro N20 T21 x26 v27 a25 _ H30 ⟨B29, o32, o33, s31, rfl, m11⟩ r28 kk22 kr23 kb24 P
      replace st := st.go s31 (go1 (.inr n13))
      replace w := s31.ok
      have sj18 := s31
      replace r28 := r28.mono sj18.ex
      refine h_gname ?_
      have wj35 := w
      have sj34 := Stp.refl (W := [p8]) w
      refine h_joinS P (fun (a : (Tp3 (Tp2 Int Int) (Option (Tp2 Int Int)) (Tp2 Int Int)) × (List (Tp3 (Tp2 Int Int) (Option (Tp2 Int Int)) (Tp2 Int Int)))) σ' H' => ∃ (B' : Hp) (v0 : V) (o_before : Option V), Stp [p8] B29 H30 B' H' ∧ σ' = [some ((.ref p14)), some ((.ref p8)), some v0, o_before] ∧ Rep K B' v0 (enc a.1) ∧ Mu K B' H' p8 (a.2.map enc)) (fun N kk36 P => h_if ?_) ?_
      · skip
        have wj38 := w
        have sj37 := Stp.refl (W := []) w
        refine h_condJ P (fun H' => ∃ B', Stp [] B29 H30 B' H') (fun N kk39 P => ?_) ?_
        · skip
          refine h_tand ?_
          refine h_test ?_
          refine h_op ?_
          refine h_var rfl ?_
          refine h_lst ?_
          refine h_nil ?_
          refine h_newL w (ds := (([] : List D)).map enc) (K := K) .nil (fun p40 B41 H42 s43 r44 => ?_) (by show 0 ≤ sizeLine; decide)
          replace m11 := m11.step s43 nm0
          replace r28 := r28.mono s43.ex
          replace st := st.go s43 go0
          replace sj18 := sj18.go s43 go0
          replace sj34 := sj34.go s43 go0
          replace sj37 := sj37.go s43 go0
          replace w := s43.ok
          replace r44 : Rep K B41 (.ref p40) (enc ([] : List D)) := r44
          obtain ⟨gd, P⟩ := P.guard
          obtain ⟨xs46, hv, hs47, hr48⟩ := Mu.sq m11
          refine h_neC (d := (enc a25)) (e := (enc ([] : List D))) (SqL.cp w hs47 hr48) (Rep.cp w r44) gd ?_
          refine h_bl ?_
          refine h_ite (fun c1 => ?_) (fun c1 => ?_)
          · replace P := P.iteT c1
            refine h_tB ?_
            refine h_callS ?_
            refine h_cons ?_
            refine h_op ?_
            refine h_var rfl ?_
            refine h_un ?_
            refine h_c ?_
            refine h_U ?_
            obtain ⟨xs50, hv, hs51, hr52⟩ := Mu.sq m11
            obtain ⟨x53, hx54, P⟩ := P.ix
            obtain ⟨u55, hu, r56⟩ := RepL.atE hr52 hx54
            refine h_ixL hs51 hu ?_
            refine h_cons ?_
            refine h_var rfl ?_
            refine h_nil ?_
            refine ⟨B41, u55, x53, v27, x26, w, rfl, r56, r28, Post.mono2 P.bind (fun e63 P => ?_) (fun x57 P => ?_)⟩
            · skip
              exact fun C B' H' g s => P C B' H' g (st.go s go0)
            refine fun v61 B58 H59 s60 r62 => ?_
            replace m11 := m11.step s60 nm0
            replace r28 := r28.mono s60.ex
            replace r56 := r56.mono s60.ex
            replace st := st.go s60 go0
            replace sj18 := sj18.go s60 go0
            replace sj34 := sj34.go s60 go0
            replace sj37 := sj37.go s60 go0
            replace w := s60.ok
            cases r62
            refine h_bl ?_
            exact kk39 _ _ ⟨_, sj37⟩ P.ok
          · replace P := P.iteF c1
            exact kk39 _ _ ⟨_, sj37⟩ P.ok
        rintro b64 H66 ⟨B65, s67⟩ P
        replace m11 := m11.step s67 nm0
        replace r28 := r28.mono s67.ex
        replace st := st.go s67 go0
        replace sj18 := sj18.go s67 go0
        replace sj34 := sj34.go s67 go0
        replace w := s67.ok
        refine h_ite (fun c1 => ?_) (fun c1 => ?_)
        · replace P := P.iteT c1
          refine h_set ?_
          refine h_bm0 ?_
          refine h_var rfl ?_
          refine h_bmL0 m11 ?_
          obtain ⟨y72, hx71, P⟩ := P.popE
          refine h_popE w m11 hx71 (fun u73 H68 s69 m11 r74 => ?_)
          replace r28 := r28.mono s69.ex
          replace st := st.go s69 (go1 (.inr n13))
          replace sj18 := sj18.go s69 (go1 (.inl (by simp)))
          replace sj34 := sj34.go s69 (go1 (.inl (by simp)))
          replace w := s69.ok
          generalize hl : (y72, List.dropLast a25) = x70 at P
          obtain rfl : y72 = x70.1 := by rw [← hl]
          have hl2 : List.dropLast a25 = x70.2 := by rw [← hl]
          rw [hl2] at m11
          refine h_set1 ?_
          refine h_tup ?_
          refine h_cons ?_
          refine h_callS ?_
          refine h_cons ?_
          refine h_op ?_
          refine h_var rfl ?_
          refine h_c ?_
          obtain ⟨p75, xs76, rfl, hs77, hr78⟩ := Rep.st w r74
          obtain ⟨u79, hu, r80⟩ := RepL.at hr78 (i := 0) rfl
          refine h_ixT hs77 hu ?_
          refine h_cons ?_
          refine h_op ?_
          refine h_var rfl ?_
          refine h_c ?_
          obtain ⟨p81, xs82, rfl, hs83, hr84⟩ := Rep.st w r28
          obtain ⟨u85, hu, r86⟩ := RepL.at hr84 (i := 0) rfl
          refine h_ixT hs83 hu ?_
          refine h_nil ?_
          refine ⟨B65, u79, x70.1.a, u85, x26.a, w, rfl, r80, r86, Post.mono2 P.bind (fun e93 P => ?_) (fun x87 P => ?_)⟩
          · skip
            exact fun C B' H' g s => P C B' H' g (st.go s go0)
          refine fun v91 B88 H89 s90 r92 => ?_
          replace m11 := m11.step s90 nm0
          replace r28 := r28.mono s90.ex
          replace r74 := r74.mono s90.ex
          replace r80 := r80.mono s90.ex
          replace r86 := r86.mono s90.ex
          replace st := st.go s90 go0
          replace sj18 := sj18.go s90 go0
          replace sj34 := sj34.go s90 go0
          replace w := s90.ok
          refine h_cons ?_
          refine h_op ?_
          refine h_var rfl ?_
          refine h_c ?_
          obtain ⟨p94, xs95, hv, hs96, hr97⟩ := Rep.st w r74
          cases hv
          obtain ⟨u98, hu, r99⟩ := RepL.at hr97 (i := 1) rfl
          refine h_ixT hs96 hu ?_
          refine h_cons ?_
          refine h_op ?_
          refine h_var rfl ?_
          refine h_c ?_
          obtain ⟨p100, xs101, hv, hs102, hr103⟩ := Rep.st w r74
          cases hv
          obtain ⟨u104, hu, r105⟩ := RepL.at hr103 (i := 2) rfl
          refine h_ixT hs102 hu ?_
          refine h_nil ?_
          refine h_newT w (K := K) (.cons r92 (.cons r99 (.cons r105 .nil))) (fun p106 B107 H108 s109 r110 => ?_) (by show 3 ≤ sizeLine; decide)
          replace m11 := m11.step s109 nm0
          replace r28 := r28.mono s109.ex
          replace r74 := r74.mono s109.ex
          replace st := st.go s109 go0
          replace sj18 := sj18.go s109 go0
          replace sj34 := sj34.go s109 go0
          replace w := s109.ok
          replace r110 : Rep K B107 (.ref p106) (enc (⟨x87, x70.1.b, x70.1.c⟩ : (Tp3 (Tp2 Int Int) (Option (Tp2 Int Int)) (Tp2 Int Int)))) := r110
          refine h_nx ?_
          exact kk36 ((⟨x87, x70.1.b, x70.1.c⟩ : (Tp3 (Tp2 Int Int) (Option (Tp2 Int Int)) (Tp2 Int Int))), x70.2) _ _ ⟨_, (.ref p106), _, sj34, rfl, r110, m11⟩ P.ok
        · replace P := P.iteF c1
          refine h_next ?_
          refine h_nx ?_
          exact kk36 (x26, a25) _ _ ⟨_, v27, _, sj34, rfl, r28, m11⟩ P.ok
      rintro a111 _ H113 ⟨B112, v115, o117, s114, rfl, r116, m11⟩ P
      replace st := st.go s114 (go1 (.inr n13))
      replace sj18 := sj18.go s114 (go1 (.inl (by simp)))
      replace w := s114.ok
      refine h_drop ?_
      refine h_bm ?_
      refine h_var rfl ?_
      refine h_bmL m11 ?_
      refine h_cons ?_
      refine h_var rfl ?_
      refine h_nil ?_
      obtain ⟨gd, P⟩ := P.guard
      refine h_append (b := a111.1) w m11 r116 gd (fun H118 s119 m11 => ?_)
      replace r116 := r116.mono s119.ex
      replace st := st.go s119 (go1 (.inr n13))
      replace sj18 := sj18.go s119 (go1 (.inl (by simp)))
      replace w := s119.ok
      refine h_nx ?_
      exact kk22 (a111.2 ++ [a111.1]) _ _ ⟨_, _, _, sj18, rfl, m11⟩ P.ok
    · rintro a120 _ H122 ⟨B121, o124, o125, s123, rfl, m11⟩ P
      replace st := st.go s123 (go1 (.inr n13))
      replace w := s123.ok
      refine h_nx ?_
      have wj127 := w
      have sj126 := Stp.refl (W := [p8]) w
      refine h_joinS P (fun (a : (List (Tp3 (Tp2 Int Int) (Option (Tp2 Int Int)) (Tp2 Int Int)))) σ' H' => ∃ (B' : Hp), Stp [p8] B121 H122 B' H' ∧ σ' = [some ((.ref p14)), some ((.ref p8)), o125, o124] ∧ Mu K B' H' p8 (a.map enc)) (fun N kk128 P => h_if ?_) ?_
      · skip
        have wj130 := w
        have sj129 := Stp.refl (W := []) w
        refine h_condJ P (fun H' => ∃ B', Stp [] B121 H122 B' H') (fun N kk131 P => ?_) ?_
        · skip
          refine h_tand ?_
          refine h_test ?_
          refine h_op ?_
          refine h_var rfl ?_
          refine h_lst ?_
          refine h_nil ?_
          refine h_newL w (ds := (([] : List D)).map enc) (K := K) .nil (fun p132 B133 H134 s135 r136 => ?_) (by show 0 ≤ sizeLine; decide)
          replace m11 := m11.step s135 nm0
          replace st := st.go s135 go0
          replace sj126 := sj126.go s135 go0
          replace sj129 := sj129.go s135 go0
          replace w := s135.ok
          replace r136 : Rep K B133 (.ref p132) (enc ([] : List D)) := r136
          obtain ⟨gd, P⟩ := P.guard
          obtain ⟨xs138, hv, hs139, hr140⟩ := Mu.sq m11
          refine h_neC (d := (enc a120)) (e := (enc ([] : List D))) (SqL.cp w hs139 hr140) (Rep.cp w r136) gd ?_
          refine h_bl ?_
          refine h_ite (fun c1 => ?_) (fun c1 => ?_)
          · replace P := P.iteT c1
            refine h_test ?_
            refine h_op ?_
            refine h_op ?_
            refine h_op ?_
            refine h_var rfl ?_
            refine h_un ?_
            refine h_c ?_
            refine h_U ?_
            obtain ⟨xs142, hv, hs143, hr144⟩ := Mu.sq m11
            obtain ⟨x145, hx146, P⟩ := P.ix
            obtain ⟨u147, hu, r148⟩ := RepL.atE hr144 hx146
            refine h_ixL hs143 hu ?_
            refine h_c ?_
            obtain ⟨p149, xs150, rfl, hs151, hr152⟩ := Rep.st w r148
            obtain ⟨u153, hu, r154⟩ := RepL.at hr152 (i := 1) rfl
            refine h_ixT hs151 hu ?_
            refine h_c ?_
            refine h_isN r154 ?_
            refine h_bl ?_
            exact kk131 _ _ ⟨_, sj129⟩ P.ok
          · replace P := P.iteF c1
            exact kk131 _ _ ⟨_, sj129⟩ P.ok
        rintro b155 H157 ⟨B156, s158⟩ P
        replace m11 := m11.step s158 nm0
        replace st := st.go s158 go0
        replace sj126 := sj126.go s158 go0
        replace w := s158.ok
        refine h_ite (fun c1 => ?_) (fun c1 => ?_)
        · replace P := P.iteT c1
          refine h_drop ?_
          refine h_bm0 ?_
          refine h_var rfl ?_
          refine h_bmL0 m11 ?_
          obtain ⟨y163, hx162, P⟩ := P.popE
          refine h_popE w m11 hx162 (fun u164 H159 s160 m11 r165 => ?_)
          replace st := st.go s160 (go1 (.inr n13))
          replace sj126 := sj126.go s160 (go1 (.inl (by simp)))
          replace w := s160.ok
          generalize hl : (y163, List.dropLast a120) = x161 at P
          obtain rfl : y163 = x161.1 := by rw [← hl]
          have hl2 : List.dropLast a120 = x161.2 := by rw [← hl]
          rw [hl2] at m11
          refine h_nx ?_
          exact kk128 x161.2 _ _ ⟨_, sj126, rfl, m11⟩ P.ok
        · replace P := P.iteF c1
          refine h_next ?_
          refine h_nx ?_
          exact kk128 a120 _ _ ⟨_, sj126, rfl, m11⟩ P.ok
      rintro a166 _ H168 ⟨B167, s169, rfl, m11⟩ P
      replace st := st.go s169 (go1 (.inr n13))
      replace w := s169.ok
      refine h_ret ?_
      refine h_var rfl ?_
      exact P.ok _ _ _ st n13 m11
theorem ok_over__any {f : Addr} {fd : FuncData}  (F : Fun K "over" "over" s_over__any f fd) {f_sure_edits : Addr} {d_sure_edits : FuncData} (g_sure_edits : mg "sure_edits" = some (.ref f_sure_edits)) (k_sure_edits : PySem.W.keepIn K (.ref f_sure_edits) = true) (b_sure_edits : L2.Binds K d_sure_edits ["thing"] []) (G_sure_edits : FnOk Pr wo K mg base (L2.CX Pr wo) 6 f_sure_edits d_sure_edits ["thing"] (sp_sure_edits K mg)) : FnOk Pr wo K mg base (L2.CX Pr wo) 7 f fd ["outer", "inner"] (sp_over__any K mg) := by
  refine F.okX sc_over__any (fun vs H Q E h => ?_) (fun cdv A outer s H0 vs Q E hr h => ?_)
  · obtain ⟨_, _, _, _, _, _, rfl, _⟩ := h; rfl
  · obtain ⟨B0, v_outer, a_outer, v_inner, a_inner, w, rfl, r_outer, r_inner, P⟩ := h
    have w0 := w
    have hu := hu_of hr
    have hu64 := hu64_of hr
    have hu65 := hu65_of hr
    have hr6 : Room 6 _ := hr.mono (by decide)
    refine ⟨_, (pss_cons (ps_expr (pe_callS G_sure_edits hr6 rfl g_sure_edits k_sure_edits b_sure_edits (fun σ => passAt (takes_of rfl rfl rfl rfl) σ) (pa_cons (pv 0) pa_nil)))
      (pss_cons (ps_expr (pe_callS G_sure_edits hr6 rfl g_sure_edits k_sure_edits b_sure_edits (fun σ => passAt (takes_of rfl rfl rfl rfl) σ) (pa_cons (pv 1) pa_nil)))
      pss_unreached)), ?_⟩
    unfold m_over__any at P
    have st := Stp.refl (W := []) w
    refine h_seq ?_
    refine h_drop ?_
    refine h_callS ?_
    refine h_cons ?_
    refine h_var rfl ?_
    refine h_nil ?_
    refine ⟨B0, v_outer, a_outer, w, rfl, (r_outer.mono st.ex), Post.mono2 P.bind (fun e7 P => ?_) (fun x1 P => ?_)⟩
    · skip
      exact fun C B' H' g s => P C B' H' g (st.go s go0)
    refine fun v5 B2 H3 s4 r6 => ?_
    replace st := st.go s4 go0
    replace w := s4.ok
    cases r6
    refine h_nx ?_
    refine h_seq ?_
    refine h_drop ?_
    refine h_callS ?_
    refine h_cons ?_
    refine h_var rfl ?_
    refine h_nil ?_
    refine ⟨B2, v_inner, a_inner, w, rfl, (r_inner.mono st.ex), Post.mono2 P.bind (fun e14 P => ?_) (fun x8 P => ?_)⟩
    · skip
      exact fun C B' H' g s => P C B' H' g (st.go s go0)
    refine fun v12 B9 H10 s11 r13 => ?_
    replace st := st.go s11 go0
    replace w := s11.ok
    cases r13
    refine h_nx ?_
    exact P.elim
theorem ok_part__any {f : Addr} {fd : FuncData}  (F : Fun K "part" "part" s_part__any f fd) {f_sure_edits : Addr} {d_sure_edits : FuncData} (g_sure_edits : mg "sure_edits" = some (.ref f_sure_edits)) (k_sure_edits : PySem.W.keepIn K (.ref f_sure_edits) = true) (b_sure_edits : L2.Binds K d_sure_edits ["thing"] []) (G_sure_edits : FnOk Pr wo K mg base (L2.CX Pr wo) 6 f_sure_edits d_sure_edits ["thing"] (sp_sure_edits K mg)) {f_sure_stretch : Addr} {d_sure_stretch : FuncData} (g_sure_stretch : mg "sure_stretch" = some (.ref f_sure_stretch)) (k_sure_stretch : PySem.W.keepIn K (.ref f_sure_stretch) = true) (b_sure_stretch : L2.Binds K d_sure_stretch ["low", "high"] []) (G_sure_stretch : FnOk Pr wo K mg base (L2.CX Pr wo) 5 f_sure_stretch d_sure_stretch ["low", "high"] (sp_sure_stretch K mg)) : FnOk Pr wo K mg base (L2.CX Pr wo) 7 f fd ["edits", "low", "high"] (sp_part__any K mg) := by
  refine F.okX sc_part__any (fun vs H Q E h => ?_) (fun cdv A outer s H0 vs Q E hr h => ?_)
  · obtain ⟨_, _, _, _, _, _, _, _, rfl, _⟩ := h; rfl
  · obtain ⟨B0, v_edits, a_edits, v_low, a_low, v_high, a_high, w, rfl, r_edits, r_low, r_high, P⟩ := h
    have w0 := w
    have hu := hu_of hr
    have hu64 := hu64_of hr
    have hu65 := hu65_of hr
    have hr5 : Room 5 _ := hr.mono (by decide)
    have hr6 : Room 6 _ := hr.mono (by decide)
    refine ⟨_, (pss_cons (ps_expr (pe_callS G_sure_edits hr6 rfl g_sure_edits k_sure_edits b_sure_edits (fun σ => passAt (takes_of rfl rfl rfl rfl) σ) (pa_cons (pv 0) pa_nil)))
      (pss_cons (ps_expr (pe_callS G_sure_stretch hr5 rfl g_sure_stretch k_sure_stretch b_sure_stretch (fun σ => passAt (takes_of rfl rfl rfl rfl) σ) (pa_cons (pv 1) (pa_cons (pv 2) pa_nil))))
      pss_unreached)), ?_⟩
    unfold m_part__any at P
    have st := Stp.refl (W := []) w
    refine h_seq ?_
    refine h_drop ?_
    refine h_callS ?_
    refine h_cons ?_
    refine h_var rfl ?_
    refine h_nil ?_
    refine ⟨B0, v_edits, a_edits, w, rfl, (r_edits.mono st.ex), Post.mono2 P.bind (fun e7 P => ?_) (fun x1 P => ?_)⟩
    · skip
      exact fun C B' H' g s => P C B' H' g (st.go s go0)
    refine fun v5 B2 H3 s4 r6 => ?_
    replace st := st.go s4 go0
    replace w := s4.ok
    cases r6
    refine h_nx ?_
    refine h_seq ?_
    refine h_drop ?_
    refine h_callS ?_
    refine h_cons ?_
    refine h_var rfl ?_
    refine h_cons ?_
    refine h_var rfl ?_
    refine h_nil ?_
    refine ⟨B2, v_low, a_low, v_high, a_high, w, rfl, (r_low.mono st.ex), (r_high.mono st.ex), Post.mono2 P.bind (fun e14 P => ?_) (fun x8 P => ?_)⟩
    · skip
      exact fun C B' H' g s => P C B' H' g (st.go s go0)
    refine fun v12 B9 H10 s11 r13 => ?_
    replace st := st.go s11 go0
    replace w := s11.ok
    cases r13
    refine h_nx ?_
    exact P.elim
theorem ok_after__any {f : Addr} {fd : FuncData}  (F : Fun K "after" "after" s_after__any f fd) {f_sure_edits : Addr} {d_sure_edits : FuncData} (g_sure_edits : mg "sure_edits" = some (.ref f_sure_edits)) (k_sure_edits : PySem.W.keepIn K (.ref f_sure_edits) = true) (b_sure_edits : L2.Binds K d_sure_edits ["thing"] []) (G_sure_edits : FnOk Pr wo K mg base (L2.CX Pr wo) 6 f_sure_edits d_sure_edits ["thing"] (sp_sure_edits K mg)) : FnOk Pr wo K mg base (L2.CX Pr wo) 7 f fd ["one", "other"] (sp_after__any K mg) := by
  refine F.okX sc_after__any (fun vs H Q E h => ?_) (fun cdv A outer s H0 vs Q E hr h => ?_)
  · obtain ⟨_, _, _, _, _, _, rfl, _⟩ := h; rfl
  · obtain ⟨B0, v_one, a_one, v_other, a_other, w, rfl, r_one, r_other, P⟩ := h
    have w0 := w
    have hu := hu_of hr
    have hu64 := hu64_of hr
    have hu65 := hu65_of hr
    have hr6 : Room 6 _ := hr.mono (by decide)
    refine ⟨_, (pss_cons (ps_expr (pe_callS G_sure_edits hr6 rfl g_sure_edits k_sure_edits b_sure_edits (fun σ => passAt (takes_of rfl rfl rfl rfl) σ) (pa_cons (pv 0) pa_nil)))
      (pss_cons (ps_expr (pe_callS G_sure_edits hr6 rfl g_sure_edits k_sure_edits b_sure_edits (fun σ => passAt (takes_of rfl rfl rfl rfl) σ) (pa_cons (pv 1) pa_nil)))
      pss_unreached)), ?_⟩
    unfold m_after__any at P
    have st := Stp.refl (W := []) w
    refine h_seq ?_
    refine h_drop ?_
    refine h_callS ?_
    refine h_cons ?_
    refine h_var rfl ?_
    refine h_nil ?_
    refine ⟨B0, v_one, a_one, w, rfl, (r_one.mono st.ex), Post.mono2 P.bind (fun e7 P => ?_) (fun x1 P => ?_)⟩
    · skip
      exact fun C B' H' g s => P C B' H' g (st.go s go0)
    refine fun v5 B2 H3 s4 r6 => ?_
    replace st := st.go s4 go0
    replace w := s4.ok
    cases r6
    refine h_nx ?_
    refine h_seq ?_
    refine h_drop ?_
    refine h_callS ?_
    refine h_cons ?_
    refine h_var rfl ?_
    refine h_nil ?_
    refine ⟨B2, v_other, a_other, w, rfl, (r_other.mono st.ex), Post.mono2 P.bind (fun e14 P => ?_) (fun x8 P => ?_)⟩
    · skip
      exact fun C B' H' g s => P C B' H' g (st.go s go0)
    refine fun v12 B9 H10 s11 r13 => ?_
    replace st := st.go s11 go0
    replace w := s11.ok
    cases r13
    refine h_nx ?_
    exact P.elim
theorem ok_parted__any {f : Addr} {fd : FuncData}  (F : Fun K "parted" "parted" s_parted__any f fd) {f_sure_edits : Addr} {d_sure_edits : FuncData} (g_sure_edits : mg "sure_edits" = some (.ref f_sure_edits)) (k_sure_edits : PySem.W.keepIn K (.ref f_sure_edits) = true) (b_sure_edits : L2.Binds K d_sure_edits ["thing"] []) (G_sure_edits : FnOk Pr wo K mg base (L2.CX Pr wo) 6 f_sure_edits d_sure_edits ["thing"] (sp_sure_edits K mg)) : FnOk Pr wo K mg base (L2.CX Pr wo) 7 f fd ["one", "other"] (sp_parted__any K mg) := by
  refine F.okX sc_parted__any (fun vs H Q E h => ?_) (fun cdv A outer s H0 vs Q E hr h => ?_)
  · obtain ⟨_, _, _, _, _, _, rfl, _⟩ := h; rfl
  · obtain ⟨B0, v_one, a_one, v_other, a_other, w, rfl, r_one, r_other, P⟩ := h
    have w0 := w
    have hu := hu_of hr
    have hu64 := hu64_of hr
    have hu65 := hu65_of hr
    have hr6 : Room 6 _ := hr.mono (by decide)
    refine ⟨_, (pss_cons (ps_expr (pe_callS G_sure_edits hr6 rfl g_sure_edits k_sure_edits b_sure_edits (fun σ => passAt (takes_of rfl rfl rfl rfl) σ) (pa_cons (pv 0) pa_nil)))
      (pss_cons (ps_expr (pe_callS G_sure_edits hr6 rfl g_sure_edits k_sure_edits b_sure_edits (fun σ => passAt (takes_of rfl rfl rfl rfl) σ) (pa_cons (pv 1) pa_nil)))
      pss_unreached)), ?_⟩
    unfold m_parted__any at P
    have st := Stp.refl (W := []) w
    refine h_seq ?_
    refine h_drop ?_
    refine h_callS ?_
    refine h_cons ?_
    refine h_var rfl ?_
    refine h_nil ?_
    refine ⟨B0, v_one, a_one, w, rfl, (r_one.mono st.ex), Post.mono2 P.bind (fun e7 P => ?_) (fun x1 P => ?_)⟩
    · skip
      exact fun C B' H' g s => P C B' H' g (st.go s go0)
    refine fun v5 B2 H3 s4 r6 => ?_
    replace st := st.go s4 go0
    replace w := s4.ok
    cases r6
    refine h_nx ?_
    refine h_seq ?_
    refine h_drop ?_
    refine h_callS ?_
    refine h_cons ?_
    refine h_var rfl ?_
    refine h_nil ?_
    refine ⟨B2, v_other, a_other, w, rfl, (r_other.mono st.ex), Post.mono2 P.bind (fun e14 P => ?_) (fun x8 P => ?_)⟩
    · skip
      exact fun C B' H' g s => P C B' H' g (st.go s go0)
    refine fun v12 B9 H10 s11 r13 => ?_
    replace st := st.go s11 go0
    replace w := s11.ok
    cases r13
    refine h_nx ?_
    exact P.elim
theorem ok_stretches__any {f : Addr} {fd : FuncData}  (F : Fun K "stretches" "stretches" s_stretches__any f fd) {f_sure_edits : Addr} {d_sure_edits : FuncData} (g_sure_edits : mg "sure_edits" = some (.ref f_sure_edits)) (k_sure_edits : PySem.W.keepIn K (.ref f_sure_edits) = true) (b_sure_edits : L2.Binds K d_sure_edits ["thing"] []) (G_sure_edits : FnOk Pr wo K mg base (L2.CX Pr wo) 6 f_sure_edits d_sure_edits ["thing"] (sp_sure_edits K mg)) {f_sure_stretch : Addr} {d_sure_stretch : FuncData} (g_sure_stretch : mg "sure_stretch" = some (.ref f_sure_stretch)) (k_sure_stretch : PySem.W.keepIn K (.ref f_sure_stretch) = true) (b_sure_stretch : L2.Binds K d_sure_stretch ["low", "high"] []) (G_sure_stretch : FnOk Pr wo K mg base (L2.CX Pr wo) 5 f_sure_stretch d_sure_stretch ["low", "high"] (sp_sure_stretch K mg)) : FnOk Pr wo K mg base (L2.CX Pr wo) 7 f fd ["edits", "low", "high"] (sp_stretches__any K mg) := by
  refine F.okX sc_stretches__any (fun vs H Q E h => ?_) (fun cdv A outer s H0 vs Q E hr h => ?_)
  · obtain ⟨_, _, _, _, _, _, _, _, rfl, _⟩ := h; rfl
  · obtain ⟨B0, v_edits, a_edits, v_low, a_low, v_high, a_high, w, rfl, r_edits, r_low, r_high, P⟩ := h
    have w0 := w
    have hu := hu_of hr
    have hu64 := hu64_of hr
    have hu65 := hu65_of hr
    have hr5 : Room 5 _ := hr.mono (by decide)
    have hr6 : Room 6 _ := hr.mono (by decide)
    refine ⟨_, (pss_cons (ps_expr (pe_callS G_sure_edits hr6 rfl g_sure_edits k_sure_edits b_sure_edits (fun σ => passAt (takes_of rfl rfl rfl rfl) σ) (pa_cons (pv 0) pa_nil)))
      (pss_cons (ps_expr (pe_callS G_sure_stretch hr5 rfl g_sure_stretch k_sure_stretch b_sure_stretch (fun σ => passAt (takes_of rfl rfl rfl rfl) σ) (pa_cons (pv 1) (pa_cons (pv 2) pa_nil))))
      pss_unreached)), ?_⟩
    unfold m_stretches__any at P
    have st := Stp.refl (W := []) w
    refine h_seq ?_
    refine h_drop ?_
    refine h_callS ?_
    refine h_cons ?_
    refine h_var rfl ?_
    refine h_nil ?_
    refine ⟨B0, v_edits, a_edits, w, rfl, (r_edits.mono st.ex), Post.mono2 P.bind (fun e7 P => ?_) (fun x1 P => ?_)⟩
    · skip
      exact fun C B' H' g s => P C B' H' g (st.go s go0)
    refine fun v5 B2 H3 s4 r6 => ?_
    replace st := st.go s4 go0
    replace w := s4.ok
    cases r6
    refine h_nx ?_
    refine h_seq ?_
    refine h_drop ?_
    refine h_callS ?_
    refine h_cons ?_
    refine h_var rfl ?_
    refine h_cons ?_
    refine h_var rfl ?_
    refine h_nil ?_
    refine ⟨B2, v_low, a_low, v_high, a_high, w, rfl, (r_low.mono st.ex), (r_high.mono st.ex), Post.mono2 P.bind (fun e14 P => ?_) (fun x8 P => ?_)⟩
    · skip
      exact fun C B' H' g s => P C B' H' g (st.go s go0)
    refine fun v12 B9 H10 s11 r13 => ?_
    replace st := st.go s11 go0
    replace w := s11.ok
    cases r13
    refine h_nx ?_
    exact P.elim
theorem ok__law_cell_at {f : Addr} {fd : FuncData}  (F : Fun K "_law_cell_at" "_law_cell_at" s__law_cell_at f fd) (bI_len : mg "len" = none) : FnOk Pr wo K mg base CX0 1 f fd ["_law_script", "_law_k"] (sp__law_cell_at K) := by
  refine F.ok sc__law_cell_at (fun vs H Q E h => ?_) (fun cdv A outer s H0 vs Q E hr h => ?_)
  · obtain ⟨_, _, _, _, _, rfl, _⟩ := h; rfl
  · obtain ⟨B0, v_script, a_script, a_k, w, rfl, r_script, P⟩ := h
    have w0 := w
    have hu := hu_of hr
    have hu64 := hu64_of hr
    have hu65 := hu65_of hr
    refine ⟨_, (pss_cons (ps_if (pt_cmpR op_lt (pv 1) (pe_callB (r := rLenY K) cr_len (by rfl) bI_len PySem.boot_len (pa_cons (pv 0) pa_nil)) (nomark _)) (pss_one (ps_ret (pe_ix (r := rIxL K) ix_list (pv 0) (pv 1) (fun _ _ => rfl)))) pss_nil)
      (pss_one (ps_ret pe_int))), ?_⟩
    unfold l_cell_at at P
    have st := Stp.refl (W := []) w
    refine h_seq <| h_if ?_
    refine h_test ?_
    refine h_op ?_
    refine h_var rfl ?_
    refine h_cb ?_
    refine h_cons ?_
    refine h_var rfl ?_
    refine h_nil ?_
    obtain ⟨p1, xs2, rfl, hs3, hr4⟩ := Bor.sq (r_script.step st)
    refine h_len hs3 hr4 ?_
    refine h_I0 ?_
    refine h_bl ?_
    refine h_ite (fun c1 => ?_) (fun c1 => ?_)
    · replace P := P.iteT c1
      refine h_ret ?_
      refine h_op ?_
      refine h_var rfl ?_
      refine h_var rfl ?_
      obtain ⟨p5, xs6, hv, hs7, hr8⟩ := Bor.sq (r_script.step st)
      cases hv
      obtain ⟨x9, hx10, P⟩ := P.ix
      obtain ⟨u11, hu, r12⟩ := RepL.atE hr8 hx10
      refine h_ixL hs7 hu ?_
      cases r12
      exact P.ok _ _ _ st (Rep.int _)
    · replace P := P.iteF c1
      refine h_next ?_
      refine h_nx ?_
      refine h_ret ?_
      refine h_c ?_
      exact P.ok _ _ _ st (Rep.int _)
theorem ok__law_digit {f : Addr} {fd : FuncData}  (F : Fun K "_law_digit" "_law_digit" s__law_digit f fd) (bI_len : mg "len" = none) : FnOk Pr wo K mg base CX0 1 f fd ["_law_state", "_law_base"] (sp__law_digit K) := by
  refine F.ok sc__law_digit (fun vs H Q E h => ?_) (fun cdv A outer s H0 vs Q E hr h => ?_)
  · obtain ⟨_, _, _, _, _, rfl, _⟩ := h; rfl
  · obtain ⟨B0, p_state, a_state, a_base, w, rfl, m_state, P⟩ := h
    have w0 := w
    have hu := hu_of hr
    have hu64 := hu64_of hr
    have hu65 := hu65_of hr
    refine ⟨_, (pss_cons (ps_if (pt_cmpR op_eq (pe_callB (r := rLenY K) cr_len (by rfl) bI_len PySem.boot_len (pa_cons (pv 0) pa_nil)) pe_int (nomark _)) (pss_one (ps_expr (pe_bm PySem.F.plainAttrs_list PySem.F.slot_list_extend PySem.F.type_list_extend mt_extend (pv 0) (pa_cons (pe_lst (pa_cons (pe_op op_mod (pe_ix (r := rIxL K) ix_list (pv 0) pe_int (fun _ _ => rfl)) pe_int) (pa_cons pe_int pa_nil))) pa_nil)))) pss_nil)
      (pss_cons (ps_if (pt_cmpR op_ge (pe_ix (r := rIxL K) ix_list (pv 0) pe_int (fun _ _ => rfl)) (pv 1) (nomark _)) (pss_cons (ps_set (i := 2) sc__law_digit.nd rfl (by first | exact Or.inl rfl | exact Or.inr rfl) (pe_op op_mod (pe_ix (r := rIxL K) ix_list (pv 0) pe_int (fun _ _ => rfl)) (pv 1)))
      (pss_cons (ps_asg (pe_op op_fdivW (pe_ix (r := rIxL K) ix_list (pv 0) pe_int (fun _ _ => rfl)) (pv 1)) (pg_sub (pv 0) pe_int set_list))
      (pss_one (ps_ret (pv 2))))) pss_nil)
      (pss_cons (ps_asg (pe_op op_add (pe_ix (r := rIxL K) ix_list (pv 0) pe_int (fun _ _ => rfl)) pe_int) (pg_sub (pv 0) pe_int set_list))
      (pss_cons (ps_set (i := 3) sc__law_digit.nd rfl (by first | exact Or.inl rfl | exact Or.inr rfl) (pe_op op_mod (pe_op op_mul (pe_op op_add (pe_op op_add (pe_ix (r := rIxL K) ix_list (pv 0) pe_int (fun _ _ => rfl)) (pe_op op_mul pe_int (pe_ix (r := rIxL K) ix_list (pv 0) pe_int (fun _ _ => rfl)))) pe_int) pe_int) pe_int))
      (pss_cons (ps_set (i := 3) sc__law_digit.nd rfl (by first | exact Or.inl rfl | exact Or.inr rfl) (pe_op op_mod (pe_op op_mulW (pv 3) (pe_op op_add (pe_op op_fdiv (pv 3) pe_int) pe_int)) pe_int))
      (pss_one (ps_ret (pe_op op_mod (pe_op op_mod (pe_op op_mulW (pv 3) (pe_op op_add (pe_op op_fdiv (pv 3) pe_int) pe_int)) pe_int) (pv 1))))))))), ?_⟩
    unfold l_digit at P
    have st := Stp.refl (W := [p_state]) w
    have wj2 := w
    have sj1 := Stp.refl (W := [p_state]) w
    refine h_joinS P (fun (a : (List Int)) σ' H' => ∃ (B' : Hp), Stp [p_state] B0 H0 B' H' ∧ σ' = [some ((.ref p_state)), some (.int a_base), none, none] ∧ Mu K B' H' p_state (a.map enc)) (fun N kk3 P => h_if ?_) ?_
    · skip
      refine h_test ?_
      refine h_op ?_
      refine h_cb ?_
      refine h_cons ?_
      refine h_var rfl ?_
      refine h_nil ?_
      obtain ⟨xs5, hv, hs6, hr7⟩ := Mu.sq m_state
      refine h_len hs6 hr7 ?_
      refine h_c ?_
      refine h_eqI ?_
      refine h_bl ?_
      refine h_ite (fun c1 => ?_) (fun c1 => ?_)
      · replace P := P.iteT c1
        refine h_drop ?_
        refine h_bm ?_
        refine h_var rfl ?_
        refine h_bmL m_state ?_
        refine h_cons ?_
        refine h_lst ?_
        refine h_cons ?_
        refine h_op ?_
        refine h_op ?_
        refine h_var rfl ?_
        refine h_c ?_
        obtain ⟨xs9, hv, hs10, hr11⟩ := Mu.sq m_state
        obtain ⟨x12, hx13, P⟩ := P.ix
        obtain ⟨u14, hu, r15⟩ := RepL.atE hr11 hx13
        refine h_ixL hs10 hu ?_
        cases r15
        refine h_c ?_
        refine h_I (by decide +kernel) ?_
        refine h_cons ?_
        refine h_c ?_
        refine h_nil ?_
        refine h_newM w (ds := (([(x12 % 2147483647), 0] : List Int)).map enc) (K := K) (.cons (Rep.int _) (.cons (Rep.int _) .nil)) (fun p16 H17 hn20 s18 m19 => ?_) (by show 2 ≤ sizeLine; decide)
        have n21 := st.nn hn20
        have n22 := sj1.nn hn20
        have ne23 := Mu.ne m_state hn20
        replace m_state := m_state.step s18 nm0
        replace st := st.go s18 go0
        replace sj1 := sj1.go s18 go0
        replace w := s18.ok
        refine h_nil ?_
        obtain ⟨gd, P⟩ := P.guard
        refine h_extend w m_state m19 gd (fun H24 s25 m_state => ?_)
        replace st := st.go s25 (go1 (.inl (by simp)))
        replace sj1 := sj1.go s25 (go1 (.inl (by simp)))
        replace w := s25.ok
        refine h_nx ?_
        exact kk3 (a_state ++ ([(x12 % 2147483647), 0] : List Int)) _ _ ⟨_, sj1, rfl, m_state⟩ P.ok
      · replace P := P.iteF c1
        refine h_next ?_
        refine h_nx ?_
        exact kk3 a_state _ _ ⟨_, sj1, rfl, m_state⟩ P.ok
    rintro a26 _ H28 ⟨B27, s29, rfl, m_state⟩ P
    replace st := st.go s29 (go1 (.inl (by simp)))
    replace w := s29.ok
    refine h_seq <| h_if ?_
    refine h_test ?_
    refine h_op ?_
    refine h_op ?_
    refine h_var rfl ?_
    refine h_c ?_
    obtain ⟨xs31, hv, hs32, hr33⟩ := Mu.sq m_state
    obtain ⟨x34, hx35, P⟩ := P.ix
    obtain ⟨u36, hu, r37⟩ := RepL.atE hr33 hx35
    refine h_ixL hs32 hu ?_
    cases r37
    refine h_var rfl ?_
    refine h_I0 ?_
    refine h_bl ?_
    refine h_ite (fun c1 => ?_) (fun c1 => ?_)
    · replace P := P.iteT c1
      refine h_set ?_
      refine h_op ?_
      refine h_op ?_
      refine h_var rfl ?_
      refine h_c ?_
      obtain ⟨xs39, hv, hs40, hr41⟩ := Mu.sq m_state
      obtain ⟨x42, hx43, P⟩ := P.ix
      obtain ⟨u44, hu, r45⟩ := RepL.atE hr41 hx43
      refine h_ixL hs40 hu ?_
      cases r45
      refine h_var rfl ?_
      obtain ⟨gd, P⟩ := P.guard
      refine h_I gd ?_
      replace P := P.lt
      generalize hx : (x42 % a_base) = x46 at P ⊢
      refine h_seq ?_
      refine h_asg ?_
      refine h_op ?_
      refine h_op ?_
      refine h_var rfl ?_
      refine h_c ?_
      obtain ⟨xs48, hv, hs49, hr50⟩ := Mu.sq m_state
      obtain ⟨x51, hx52, P⟩ := P.ix
      obtain ⟨u53, hu, r54⟩ := RepL.atE hr50 hx52
      refine h_ixL hs49 hu ?_
      cases r54
      refine h_var rfl ?_
      obtain ⟨gd, P⟩ := P.guard
      refine h_I gd ?_
      refine h_sub ?_
      refine h_var rfl ?_
      refine h_c ?_
      obtain ⟨j56, hj57, P⟩ := P.set
      refine h_setL (b := (x51 / a_base)) w m_state (Rep.int _) hj57 (fun H58 s59 m_state => ?_)
      replace st := st.go s59 (go1 (.inl (by simp)))
      replace w := s59.ok
      generalize hl : List.set a26 j56 (x51 / a_base) = x55 at *
      refine h_nx ?_
      refine h_ret ?_
      refine h_var rfl ?_
      exact P.ok _ _ _ st m_state (Rep.int _)
    · replace P := P.iteF c1
      refine h_next ?_
      refine h_nx ?_
      refine h_seq ?_
      refine h_asg ?_
      refine h_op ?_
      refine h_op ?_
      refine h_var rfl ?_
      refine h_c ?_
      obtain ⟨xs61, hv, hs62, hr63⟩ := Mu.sq m_state
      obtain ⟨x64, hx65, P⟩ := P.ix
      obtain ⟨u66, hu, r67⟩ := RepL.atE hr63 hx65
      refine h_ixL hs62 hu ?_
      cases r67
      refine h_c ?_
      refine h_I0 ?_
      refine h_sub ?_
      refine h_var rfl ?_
      refine h_c ?_
      obtain ⟨j69, hj70, P⟩ := P.set
      refine h_setL (b := (x64 + 1)) w m_state (Rep.int _) hj70 (fun H71 s72 m_state => ?_)
      replace st := st.go s72 (go1 (.inl (by simp)))
      replace w := s72.ok
      generalize hl : List.set a26 j69 (x64 + 1) = x68 at *
      refine h_nx ?_
      refine h_set ?_
      refine h_op ?_
      refine h_op ?_
      refine h_op ?_
      refine h_op ?_
      refine h_op ?_
      refine h_var rfl ?_
      refine h_c ?_
      obtain ⟨xs74, hv, hs75, hr76⟩ := Mu.sq m_state
      obtain ⟨x77, hx78, P⟩ := P.ix
      obtain ⟨u79, hu, r80⟩ := RepL.atE hr76 hx78
      refine h_ixL hs75 hu ?_
      cases r80
      refine h_op ?_
      refine h_c ?_
      refine h_op ?_
      refine h_var rfl ?_
      refine h_c ?_
      obtain ⟨xs82, hv, hs83, hr84⟩ := Mu.sq m_state
      obtain ⟨x85, hx86, P⟩ := P.ix
      obtain ⟨u87, hu, r88⟩ := RepL.atE hr84 hx86
      refine h_ixL hs83 hu ?_
      cases r88
      refine h_I (.inl ⟨by decide +kernel, by decide +kernel⟩) ?_
      refine h_I0 ?_
      refine h_c ?_
      refine h_I0 ?_
      refine h_c ?_
      refine h_I (.inr ⟨by decide +kernel, by decide +kernel⟩) ?_
      refine h_c ?_
      refine h_I (by decide +kernel) ?_
      replace P := P.lt
      generalize hx : ((((x77 + (7919 * x85)) + 1) * 48271) % 2147483647) = x89 at P ⊢
      refine h_set ?_
      refine h_op ?_
      refine h_op ?_
      refine h_var rfl ?_
      refine h_op ?_
      refine h_op ?_
      refine h_var rfl ?_
      refine h_c ?_
      refine h_I ⟨by decide +kernel, by decide +kernel⟩ ?_
      refine h_c ?_
      refine h_I0 ?_
      obtain ⟨gd, P⟩ := P.guard
      refine h_I gd ?_
      refine h_c ?_
      refine h_I (by decide +kernel) ?_
      replace P := P.lt
      generalize hx : ((x89 * ((x89 / 1009) + 69621)) % 2147483647) = x90 at P ⊢
      refine h_ret ?_
      refine h_op ?_
      refine h_op ?_
      refine h_op ?_
      refine h_var rfl ?_
      refine h_op ?_
      refine h_op ?_
      refine h_var rfl ?_
      refine h_c ?_
      refine h_I ⟨by decide +kernel, by decide +kernel⟩ ?_
      refine h_c ?_
      refine h_I0 ?_
      obtain ⟨gd, P⟩ := P.guard
      refine h_I gd ?_
      refine h_c ?_
      refine h_I (by decide +kernel) ?_
      refine h_var rfl ?_
      obtain ⟨gd, P⟩ := P.guard
      refine h_I gd ?_
      exact P.ok _ _ _ st m_state (Rep.int _)
theorem ok__law_shared {f : Addr} {fd : FuncData}  (F : Fun K "_law_shared" "_law_shared" s__law_shared f fd) (bI_abs : mg "abs" = none) : FnOk Pr wo K mg base CX0 1 f fd ["_law_one", "_law_other"] (sp__law_shared K) := by
  refine F.ok sc__law_shared (fun vs H Q E h => ?_) (fun cdv A outer s H0 vs Q E hr h => ?_)
  · obtain ⟨_, _, _, _, rfl, _⟩ := h; rfl
  · obtain ⟨B0, a_one, a_other, w, rfl, P⟩ := h
    have w0 := w
    have hu := hu_of hr
    have hu64 := hu64_of hr
    have hu65 := hu65_of hr
    refine ⟨_, (pss_cons (ps_set (i := 0) sc__law_shared.nd rfl (by first | exact Or.inl rfl | exact Or.inr rfl) (pe_callB cr_abs (by rfl) bI_abs PyProof.Rows.boot_abs (pa_cons (pv 0) pa_nil)))
      (pss_cons (ps_set (i := 1) sc__law_shared.nd rfl (by first | exact Or.inl rfl | exact Or.inr rfl) (pe_callB cr_abs (by rfl) bI_abs PyProof.Rows.boot_abs (pa_cons (pv 1) pa_nil)))
      (pss_cons (ps_while PassesOwn.never (pt_cmpR op_gt (pv 1) pe_int (nomark _)) (pss_one (ps_par rfl sc__law_shared.nd (i := 0) (j := 1) rfl rfl (by decide) rfl rfl (pa_cons (pv 1) (pa_cons (pe_op op_mod (pv 0) (pv 1)) pa_nil)) rfl)))
      (pss_one (ps_ret (pv 0)))))), ?_⟩
    unfold l_shared at P
    have st := Stp.refl (W := []) w
    refine h_set ?_
    refine h_cb ?_
    refine h_cons ?_
    refine h_var rfl ?_
    refine h_nil ?_
    refine h_abs ?_
    replace P := P.lt
    generalize hx : (absI a_one) = x1 at P ⊢
    refine h_set ?_
    refine h_cb ?_
    refine h_cons ?_
    refine h_var rfl ?_
    refine h_nil ?_
    refine h_abs ?_
    replace P := P.lt
    generalize hx : (absI a_other) = x2 at P ⊢
    refine h_seq ?_
    have wj4 := w
    have sj3 := Stp.refl (W := []) w
    refine h_while P (fun (a : Int × Int) σ' H' => ∃ (B' : Hp), Stp [] B0 H0 B' H' ∧ σ' = [some (.int a.1), some (.int a.2)]) ⟨_, sj3, rfl⟩ ?_ ?_
    · rintro N5 C6 T7 a12 _ H14 ⟨B13, s15, rfl⟩ kn8 kk9 kr10 kb11 P
      replace st := st.go s15 go0
      replace w := s15.ok
      have sj3 := s15
      refine h_test ?_
      refine h_op ?_
      refine h_var rfl ?_
      refine h_c ?_
      refine h_I0 ?_
      refine h_bl ?_
      refine h_ite (fun c1 => ?_) (fun c1 => ?_)
      · replace P := P.iteT c1
        refine ⟨N5, kn8, ?_⟩
        refine h_par ?_
        refine h_cons ?_
        refine h_var rfl ?_
        refine h_cons ?_
        refine h_op ?_
        refine h_var rfl ?_
        refine h_var rfl ?_
        obtain ⟨gd, P⟩ := P.guard
        refine h_I gd ?_
        refine h_nil ?_
        refine h_two ?_
        replace P := P.lt
        generalize hx : (a12.1 % a12.2) = x16 at P ⊢
        refine h_nx ?_
        exact kk9 (a12.2, x16) _ _ ⟨_, sj3, rfl⟩ P.ok
      · replace P := P.iteF c1
        exact kb11 (a12.1, a12.2) _ _ ⟨_, sj3, rfl⟩ P.ok
    · rintro a17 _ H19 ⟨B18, s20, rfl⟩ P
      replace st := st.go s20 go0
      replace w := s20.ok
      refine h_nx ?_
      refine h_ret ?_
      refine h_var rfl ?_
      exact P.ok _ _ _ st (Rep.int _)
theorem ok__law_lowest {f : Addr} {fd : FuncData}  (F : Fun K "_law_lowest" "_law_lowest" s__law_lowest f fd) {f__law_shared : Addr} {d__law_shared : FuncData} (g__law_shared : mg "_law_shared" = some (.ref f__law_shared)) (k__law_shared : PySem.W.keepIn K (.ref f__law_shared) = true) (b__law_shared : L2.Binds K d__law_shared ["_law_one", "_law_other"] []) (G__law_shared : FnOk Pr wo K mg base CX0 1 f__law_shared d__law_shared ["_law_one", "_law_other"] (sp__law_shared K)) : FnOk Pr wo K mg base CX0 2 f fd ["_law_top", "_law_bottom"] (sp__law_lowest K) := by
  refine F.ok sc__law_lowest (fun vs H Q E h => ?_) (fun cdv A outer s H0 vs Q E hr h => ?_)
  · obtain ⟨_, _, _, _, rfl, _⟩ := h; rfl
  · obtain ⟨B0, a_top, a_bottom, w, rfl, P⟩ := h
    have w0 := w
    have hu := hu_of hr
    have hu64 := hu64_of hr
    have hu65 := hu65_of hr
    have hr1 : Room 1 _ := hr.mono (by decide)
    refine ⟨_, (pss_cons (ps_set (i := 2) sc__law_lowest.nd rfl (by first | exact Or.inl rfl | exact Or.inr rfl) (pe_call G__law_shared hr1 rfl g__law_shared k__law_shared b__law_shared .nil pass0 (pa_cons (pv 0) (pa_cons (pv 1) pa_nil))))
      (pss_one (ps_ret (pe_tup (pa_cons (pe_op op_fdivW (pv 0) (pv 2)) (pa_cons (pe_op op_fdivW (pv 1) (pv 2)) pa_nil)))))), ?_⟩
    unfold l_lowest at P
    have st := Stp.refl (W := []) w
    refine h_set ?_
    refine h_call ?_
    refine h_cons ?_
    refine h_var rfl ?_
    refine h_cons ?_
    refine h_var rfl ?_
    refine h_nil ?_
    refine ⟨B0, a_top, a_bottom, w, rfl, (P.bind).mono (fun x1 P => ?_) (fun _ z => z)⟩
    refine fun v5 B2 H3 s4 r6 => ?_
    replace st := st.go s4 go0
    replace w := s4.ok
    cases r6
    refine h_ret ?_
    refine h_tup ?_
    refine h_cons ?_
    refine h_op ?_
    refine h_var rfl ?_
    refine h_var rfl ?_
    obtain ⟨gd, P⟩ := P.guard
    refine h_I gd ?_
    refine h_cons ?_
    refine h_op ?_
    refine h_var rfl ?_
    refine h_var rfl ?_
    obtain ⟨gd, P⟩ := P.guard
    refine h_I gd ?_
    refine h_nil ?_
    refine h_newT w (K := K) (.cons (Rep.int _) (.cons (Rep.int _) .nil)) (fun p7 B8 H9 s10 r11 => ?_) (by show 2 ≤ sizeLine; decide)
    replace st := st.go s10 go0
    replace w := s10.ok
    replace r11 : Rep K B8 (.ref p7) (enc (⟨(a_top / x1), (a_bottom / x1)⟩ : (Tp2 Int Int))) := r11
    exact P.ok _ _ _ st r11
theorem ok__law_plus {f : Addr} {fd : FuncData}  (F : Fun K "_law_plus" "_law_plus" s__law_plus f fd) {f__law_lowest : Addr} {d__law_lowest : FuncData} (g__law_lowest : mg "_law_lowest" = some (.ref f__law_lowest)) (k__law_lowest : PySem.W.keepIn K (.ref f__law_lowest) = true) (b__law_lowest : L2.Binds K d__law_lowest ["_law_top", "_law_bottom"] []) (G__law_lowest : FnOk Pr wo K mg base CX0 2 f__law_lowest d__law_lowest ["_law_top", "_law_bottom"] (sp__law_lowest K)) : FnOk Pr wo K mg base CX0 3 f fd ["_law_one", "_law_other"] (sp__law_plus K) := by
  refine F.ok sc__law_plus (fun vs H Q E h => ?_) (fun cdv A outer s H0 vs Q E hr h => ?_)
  · obtain ⟨_, _, _, _, _, _, rfl, _⟩ := h; rfl
  · obtain ⟨B0, v_one, a_one, v_other, a_other, w, rfl, r_one, r_other, P⟩ := h
    have w0 := w
    have hu := hu_of hr
    have hu64 := hu64_of hr
    have hu65 := hu65_of hr
    have hr2 : Room 2 _ := hr.mono (by decide)
    refine ⟨_, (pss_one (ps_ret (pe_call G__law_lowest hr2 rfl g__law_lowest k__law_lowest b__law_lowest .nil pass0 (pa_cons (pe_op op_add (pe_op op_mulW (pe_ix (r := rIxT K) ix_tup (pv 0) pe_int (fun _ _ => rfl)) (pe_ix (r := rIxT K) ix_tup (pv 1) pe_int (fun _ _ => rfl))) (pe_op op_mulW (pe_ix (r := rIxT K) ix_tup (pv 1) pe_int (fun _ _ => rfl)) (pe_ix (r := rIxT K) ix_tup (pv 0) pe_int (fun _ _ => rfl)))) (pa_cons (pe_op op_mulW (pe_ix (r := rIxT K) ix_tup (pv 0) pe_int (fun _ _ => rfl)) (pe_ix (r := rIxT K) ix_tup (pv 1) pe_int (fun _ _ => rfl))) pa_nil))))), ?_⟩
    unfold l_plus at P
    have st := Stp.refl (W := []) w
    refine h_ret ?_
    refine h_call ?_
    refine h_cons ?_
    refine h_op ?_
    refine h_op ?_
    refine h_op ?_
    refine h_var rfl ?_
    refine h_c ?_
    obtain ⟨p1, xs2, rfl, hs3, hr4⟩ := Rep.st w (r_one.mono st.ex)
    obtain ⟨u5, hu, r6⟩ := RepL.at hr4 (i := 0) rfl
    refine h_ixT hs3 hu ?_
    cases r6
    refine h_op ?_
    refine h_var rfl ?_
    refine h_c ?_
    obtain ⟨p7, xs8, rfl, hs9, hr10⟩ := Rep.st w (r_other.mono st.ex)
    obtain ⟨u11, hu, r12⟩ := RepL.at hr10 (i := 1) rfl
    refine h_ixT hs9 hu ?_
    cases r12
    obtain ⟨gd, P⟩ := P.guard
    refine h_I gd ?_
    refine h_op ?_
    refine h_op ?_
    refine h_var rfl ?_
    refine h_c ?_
    obtain ⟨p13, xs14, hv, hs15, hr16⟩ := Rep.st w (r_other.mono st.ex)
    cases hv
    obtain ⟨u17, hu, r18⟩ := RepL.at hr16 (i := 0) rfl
    refine h_ixT hs15 hu ?_
    cases r18
    refine h_op ?_
    refine h_var rfl ?_
    refine h_c ?_
    obtain ⟨p19, xs20, hv, hs21, hr22⟩ := Rep.st w (r_one.mono st.ex)
    cases hv
    obtain ⟨u23, hu, r24⟩ := RepL.at hr22 (i := 1) rfl
    refine h_ixT hs21 hu ?_
    cases r24
    obtain ⟨gd, P⟩ := P.guard
    refine h_I gd ?_
    refine h_I0 ?_
    refine h_cons ?_
    refine h_op ?_
    refine h_op ?_
    refine h_var rfl ?_
    refine h_c ?_
    obtain ⟨p25, xs26, hv, hs27, hr28⟩ := Rep.st w (r_one.mono st.ex)
    cases hv
    obtain ⟨u29, hu, r30⟩ := RepL.at hr28 (i := 1) rfl
    refine h_ixT hs27 hu ?_
    cases r30
    refine h_op ?_
    refine h_var rfl ?_
    refine h_c ?_
    obtain ⟨p31, xs32, hv, hs33, hr34⟩ := Rep.st w (r_other.mono st.ex)
    cases hv
    obtain ⟨u35, hu, r36⟩ := RepL.at hr34 (i := 1) rfl
    refine h_ixT hs33 hu ?_
    cases r36
    obtain ⟨gd, P⟩ := P.guard
    refine h_I gd ?_
    refine h_nil ?_
    refine ⟨B0, ((a_one.a * a_other.b) + (a_other.a * a_one.b)), (a_one.b * a_other.b), w, rfl, (P.bind).mono (fun x37 P => ?_) (fun _ z => z)⟩
    refine fun v41 B38 H39 s40 r42 => ?_
    replace st := st.go s40 go0
    replace w := s40.ok
    exact P.ok _ _ _ st r42
theorem ok__law_times {f : Addr} {fd : FuncData}  (F : Fun K "_law_times" "_law_times" s__law_times f fd) {f__law_lowest : Addr} {d__law_lowest : FuncData} (g__law_lowest : mg "_law_lowest" = some (.ref f__law_lowest)) (k__law_lowest : PySem.W.keepIn K (.ref f__law_lowest) = true) (b__law_lowest : L2.Binds K d__law_lowest ["_law_top", "_law_bottom"] []) (G__law_lowest : FnOk Pr wo K mg base CX0 2 f__law_lowest d__law_lowest ["_law_top", "_law_bottom"] (sp__law_lowest K)) : FnOk Pr wo K mg base CX0 3 f fd ["_law_one", "_law_other"] (sp__law_times K) := by
  refine F.ok sc__law_times (fun vs H Q E h => ?_) (fun cdv A outer s H0 vs Q E hr h => ?_)
  · obtain ⟨_, _, _, _, _, _, rfl, _⟩ := h; rfl
  · obtain ⟨B0, v_one, a_one, v_other, a_other, w, rfl, r_one, r_other, P⟩ := h
    have w0 := w
    have hu := hu_of hr
    have hu64 := hu64_of hr
    have hu65 := hu65_of hr
    have hr2 : Room 2 _ := hr.mono (by decide)
    refine ⟨_, (pss_one (ps_ret (pe_call G__law_lowest hr2 rfl g__law_lowest k__law_lowest b__law_lowest .nil pass0 (pa_cons (pe_op op_mulW (pe_ix (r := rIxT K) ix_tup (pv 0) pe_int (fun _ _ => rfl)) (pe_ix (r := rIxT K) ix_tup (pv 1) pe_int (fun _ _ => rfl))) (pa_cons (pe_op op_mulW (pe_ix (r := rIxT K) ix_tup (pv 0) pe_int (fun _ _ => rfl)) (pe_ix (r := rIxT K) ix_tup (pv 1) pe_int (fun _ _ => rfl))) pa_nil))))), ?_⟩
    unfold l_times at P
    have st := Stp.refl (W := []) w
    refine h_ret ?_
    refine h_call ?_
    refine h_cons ?_
    refine h_op ?_
    refine h_op ?_
    refine h_var rfl ?_
    refine h_c ?_
    obtain ⟨p1, xs2, rfl, hs3, hr4⟩ := Rep.st w (r_one.mono st.ex)
    obtain ⟨u5, hu, r6⟩ := RepL.at hr4 (i := 0) rfl
    refine h_ixT hs3 hu ?_
    cases r6
    refine h_op ?_
    refine h_var rfl ?_
    refine h_c ?_
    obtain ⟨p7, xs8, rfl, hs9, hr10⟩ := Rep.st w (r_other.mono st.ex)
    obtain ⟨u11, hu, r12⟩ := RepL.at hr10 (i := 0) rfl
    refine h_ixT hs9 hu ?_
    cases r12
    obtain ⟨gd, P⟩ := P.guard
    refine h_I gd ?_
    refine h_cons ?_
    refine h_op ?_
    refine h_op ?_
    refine h_var rfl ?_
    refine h_c ?_
    obtain ⟨p13, xs14, hv, hs15, hr16⟩ := Rep.st w (r_one.mono st.ex)
    cases hv
    obtain ⟨u17, hu, r18⟩ := RepL.at hr16 (i := 1) rfl
    refine h_ixT hs15 hu ?_
    cases r18
    refine h_op ?_
    refine h_var rfl ?_
    refine h_c ?_
    obtain ⟨p19, xs20, hv, hs21, hr22⟩ := Rep.st w (r_other.mono st.ex)
    cases hv
    obtain ⟨u23, hu, r24⟩ := RepL.at hr22 (i := 1) rfl
    refine h_ixT hs21 hu ?_
    cases r24
    obtain ⟨gd, P⟩ := P.guard
    refine h_I gd ?_
    refine h_nil ?_
    refine ⟨B0, (a_one.a * a_other.a), (a_one.b * a_other.b), w, rfl, (P.bind).mono (fun x25 P => ?_) (fun _ z => z)⟩
    refine fun v29 B26 H27 s28 r30 => ?_
    replace st := st.go s28 go0
    replace w := s28.ok
    exact P.ok _ _ _ st r30
theorem ok__law_amount {f : Addr} {fd : FuncData}  (F : Fun K "_law_amount" "_law_amount" s__law_amount f fd) {f__law_digit : Addr} {d__law_digit : FuncData} (g__law_digit : mg "_law_digit" = some (.ref f__law_digit)) (k__law_digit : PySem.W.keepIn K (.ref f__law_digit) = true) (b__law_digit : L2.Binds K d__law_digit ["_law_state", "_law_base"] []) (G__law_digit : FnOk Pr wo K mg base CX0 1 f__law_digit d__law_digit ["_law_state", "_law_base"] (sp__law_digit K)) {f__law_lowest : Addr} {d__law_lowest : FuncData} (g__law_lowest : mg "_law_lowest" = some (.ref f__law_lowest)) (k__law_lowest : PySem.W.keepIn K (.ref f__law_lowest) = true) (b__law_lowest : L2.Binds K d__law_lowest ["_law_top", "_law_bottom"] []) (G__law_lowest : FnOk Pr wo K mg base CX0 2 f__law_lowest d__law_lowest ["_law_top", "_law_bottom"] (sp__law_lowest K)) : FnOk Pr wo K mg base CX0 3 f fd ["_law_state"] (sp__law_amount K) := by
  refine F.ok sc__law_amount (fun vs H Q E h => ?_) (fun cdv A outer s H0 vs Q E hr h => ?_)
  · obtain ⟨_, _, _, _, rfl, _⟩ := h; rfl
  · obtain ⟨B0, p_state, a_state, w, rfl, m_state, P⟩ := h
    have w0 := w
    have hu := hu_of hr
    have hu64 := hu64_of hr
    have hu65 := hu65_of hr
    have hr1 : Room 1 _ := hr.mono (by decide)
    have hr2 : Room 2 _ := hr.mono (by decide)
    refine ⟨_, (pss_cons (ps_set (i := 1) sc__law_amount.nd rfl (by first | exact Or.inl rfl | exact Or.inr rfl) (pe_call G__law_digit hr1 rfl g__law_digit k__law_digit b__law_digit .nil pass0 (pa_cons (pv 0) (pa_cons pe_int pa_nil))))
      (pss_cons (ps_set (i := 2) sc__law_amount.nd rfl (by first | exact Or.inl rfl | exact Or.inr rfl) (pe_call G__law_lowest hr2 rfl g__law_lowest k__law_lowest b__law_lowest .nil pass0 (pa_cons (pe_call G__law_digit hr1 rfl g__law_digit k__law_digit b__law_digit .nil pass0 (pa_cons (pv 0) (pa_cons pe_int pa_nil))) (pa_cons (pe_op op_add pe_int (pe_call G__law_digit hr1 rfl g__law_digit k__law_digit b__law_digit .nil pass0 (pa_cons (pv 0) (pa_cons pe_int pa_nil)))) pa_nil))))
      (pss_cons (ps_set (i := 3) sc__law_amount.nd rfl (by first | exact Or.inl rfl | exact Or.inr rfl) (pe_call G__law_lowest hr2 rfl g__law_lowest k__law_lowest b__law_lowest .nil pass0 (pa_cons (pe_op op_add (pe_op op_mul (pe_call G__law_digit hr1 rfl g__law_digit k__law_digit b__law_digit .nil pass0 (pa_cons (pv 0) (pa_cons (pe_op op_pow pe_int pe_int) pa_nil))) (pe_op op_pow pe_int pe_int)) (pe_call G__law_digit hr1 rfl g__law_digit k__law_digit b__law_digit .nil pass0 (pa_cons (pv 0) (pa_cons (pe_op op_pow pe_int pe_int) pa_nil)))) (pa_cons pe_int pa_nil))))
      (pss_cons (ps_set (i := 4) sc__law_amount.nd rfl (by first | exact Or.inl rfl | exact Or.inr rfl) (pe_call G__law_lowest hr2 rfl g__law_lowest k__law_lowest b__law_lowest .nil pass0 (pa_cons (pe_call G__law_digit hr1 rfl g__law_digit k__law_digit b__law_digit .nil pass0 (pa_cons (pv 0) (pa_cons (pe_op op_pow pe_int pe_int) pa_nil))) (pa_cons pe_int pa_nil))))
      (pss_one (ps_ret (pe_ix (r := rIxL K) ix_list (pe_lst (pa_cons (pv 2) (pa_cons (pv 2) (pa_cons (pe_tup (pa_cons (pe_call G__law_digit hr1 rfl g__law_digit k__law_digit b__law_digit .nil pass0 (pa_cons (pv 0) (pa_cons pe_int pa_nil))) (pa_cons pe_int pa_nil))) (pa_cons (pe_tup (pa_cons pe_int (pa_cons pe_int pa_nil))) (pa_cons (pv 2) (pa_cons (pv 4) (pa_cons (pv 3) pa_nil)))))))) (pv 1) (fun _ _ => rfl)))))))), ?_⟩
    unfold l_amount at P
    have st := Stp.refl (W := [p_state]) w
    refine h_set ?_
    refine h_call ?_
    refine h_cons ?_
    refine h_var rfl ?_
    refine h_cons ?_
    refine h_c ?_
    refine h_nil ?_
    refine ⟨B0, p_state, a_state, 7, w, rfl, m_state, (P.bind).mono (fun x1 P => ?_) (fun _ z => z)⟩
    refine fun v5 B2 H3 s4 m_state r6 => ?_
    replace st := st.go s4 (go1 (.inl (by simp)))
    replace w := s4.ok
    cases r6
    refine h_set ?_
    refine h_call ?_
    refine h_cons ?_
    refine h_call ?_
    refine h_cons ?_
    refine h_var rfl ?_
    refine h_cons ?_
    refine h_c ?_
    refine h_nil ?_
    refine ⟨B2, p_state, x1.2, 13, w, rfl, m_state, (P.bind).mono (fun x7 P => ?_) (fun _ z => z)⟩
    refine fun v11 B8 H9 s10 m_state r12 => ?_
    replace st := st.go s10 (go1 (.inl (by simp)))
    replace w := s10.ok
    cases r12
    refine h_cons ?_
    refine h_op ?_
    refine h_c ?_
    refine h_call ?_
    refine h_cons ?_
    refine h_var rfl ?_
    refine h_cons ?_
    refine h_c ?_
    refine h_nil ?_
    refine ⟨B8, p_state, x7.2, 4, w, rfl, m_state, (P.bind).mono (fun x13 P => ?_) (fun _ z => z)⟩
    refine fun v17 B14 H15 s16 m_state r18 => ?_
    replace st := st.go s16 (go1 (.inl (by simp)))
    replace w := s16.ok
    cases r18
    refine h_I0 ?_
    refine h_nil ?_
    refine ⟨B14, x7.1, (1 + x13.1), w, rfl, (P.bind).mono (fun x19 P => ?_) (fun _ z => z)⟩
    refine fun v23 B20 H21 s22 r24 => ?_
    replace m_state := m_state.step s22 nm0
    replace st := st.go s22 go0
    replace w := s22.ok
    refine h_set ?_
    refine h_call ?_
    refine h_cons ?_
    refine h_op ?_
    refine h_op ?_
    refine h_call ?_
    refine h_cons ?_
    refine h_var rfl ?_
    refine h_cons ?_
    refine h_op (h_c (h_c (h_pow (k := 1000000000) (by decide +kernel) (by decide +kernel) ?_)))
    refine h_nil ?_
    refine ⟨B20, p_state, x13.2, 1000000000, w, rfl, m_state, (P.bind).mono (fun x25 P => ?_) (fun _ z => z)⟩
    refine fun v29 B26 H27 s28 m_state r30 => ?_
    replace r24 := r24.mono s28.ex
    replace st := st.go s28 (go1 (.inl (by simp)))
    replace w := s28.ok
    cases r30
    refine h_op (h_c (h_c (h_pow (k := 1000000) (by decide +kernel) (by decide +kernel) ?_)))
    refine h_I (.inr ⟨by decide +kernel, by decide +kernel⟩) ?_
    refine h_call ?_
    refine h_cons ?_
    refine h_var rfl ?_
    refine h_cons ?_
    refine h_op (h_c (h_c (h_pow (k := 1000000) (by decide +kernel) (by decide +kernel) ?_)))
    refine h_nil ?_
    refine ⟨B26, p_state, x25.2, 1000000, w, rfl, m_state, (P.bind).mono (fun x31 P => ?_) (fun _ z => z)⟩
    refine fun v35 B32 H33 s34 m_state r36 => ?_
    replace r24 := r24.mono s34.ex
    replace st := st.go s34 (go1 (.inl (by simp)))
    replace w := s34.ok
    cases r36
    refine h_I0 ?_
    refine h_cons ?_
    refine h_c ?_
    refine h_nil ?_
    refine ⟨B32, ((x25.1 * 1000000) + x31.1), 1000003, w, rfl, (P.bind).mono (fun x37 P => ?_) (fun _ z => z)⟩
    refine fun v41 B38 H39 s40 r42 => ?_
    replace m_state := m_state.step s40 nm0
    replace r24 := r24.mono s40.ex
    replace st := st.go s40 go0
    replace w := s40.ok
    refine h_set ?_
    refine h_call ?_
    refine h_cons ?_
    refine h_call ?_
    refine h_cons ?_
    refine h_var rfl ?_
    refine h_cons ?_
    refine h_op (h_c (h_c (h_pow (k := 1000000000) (by decide +kernel) (by decide +kernel) ?_)))
    refine h_nil ?_
    refine ⟨B38, p_state, x31.2, 1000000000, w, rfl, m_state, (P.bind).mono (fun x43 P => ?_) (fun _ z => z)⟩
    refine fun v47 B44 H45 s46 m_state r48 => ?_
    replace r24 := r24.mono s46.ex
    replace r42 := r42.mono s46.ex
    replace st := st.go s46 (go1 (.inl (by simp)))
    replace w := s46.ok
    cases r48
    refine h_cons ?_
    refine h_c ?_
    refine h_nil ?_
    refine ⟨B44, x43.1, 997, w, rfl, (P.bind).mono (fun x49 P => ?_) (fun _ z => z)⟩
    refine fun v53 B50 H51 s52 r54 => ?_
    replace m_state := m_state.step s52 nm0
    replace r24 := r24.mono s52.ex
    replace r42 := r42.mono s52.ex
    replace st := st.go s52 go0
    replace w := s52.ok
    refine h_ret ?_
    refine h_op ?_
    refine h_lst ?_
    refine h_cons ?_
    refine h_var rfl ?_
    refine h_cons ?_
    refine h_var rfl ?_
    refine h_cons ?_
    refine h_tup ?_
    refine h_cons ?_
    refine h_call ?_
    refine h_cons ?_
    refine h_var rfl ?_
    refine h_cons ?_
    refine h_c ?_
    refine h_nil ?_
    refine ⟨B50, p_state, x43.2, 7, w, rfl, m_state, (P.bind).mono (fun x55 P => ?_) (fun _ z => z)⟩
    refine fun v59 B56 H57 s58 m_state r60 => ?_
    replace r24 := r24.mono s58.ex
    replace r42 := r42.mono s58.ex
    replace r54 := r54.mono s58.ex
    replace st := st.go s58 (go1 (.inl (by simp)))
    replace w := s58.ok
    cases r60
    refine h_cons ?_
    refine h_c ?_
    refine h_nil ?_
    refine h_newT w (K := K) (.cons (Rep.int _) (.cons (Rep.int _) .nil)) (fun p61 B62 H63 s64 r65 => ?_) (by show 2 ≤ sizeLine; decide)
    replace m_state := m_state.step s64 nm0
    replace r24 := r24.mono s64.ex
    replace r42 := r42.mono s64.ex
    replace r54 := r54.mono s64.ex
    replace st := st.go s64 go0
    replace w := s64.ok
    replace r65 : Rep K B62 (.ref p61) (enc (⟨x55.1, 1⟩ : (Tp2 Int Int))) := r65
    refine h_cons ?_
    refine h_tup ?_
    refine h_cons ?_
    refine h_c ?_
    refine h_cons ?_
    refine h_c ?_
    refine h_nil ?_
    refine h_newT w (K := K) (.cons (Rep.int _) (.cons (Rep.int _) .nil)) (fun p66 B67 H68 s69 r70 => ?_) (by show 2 ≤ sizeLine; decide)
    replace m_state := m_state.step s69 nm0
    replace r24 := r24.mono s69.ex
    replace r42 := r42.mono s69.ex
    replace r54 := r54.mono s69.ex
    replace r65 := r65.mono s69.ex
    replace st := st.go s69 go0
    replace w := s69.ok
    replace r70 : Rep K B67 (.ref p66) (enc (⟨0, 1⟩ : (Tp2 Int Int))) := r70
    refine h_cons ?_
    refine h_var rfl ?_
    refine h_cons ?_
    refine h_var rfl ?_
    refine h_cons ?_
    refine h_var rfl ?_
    refine h_nil ?_
    refine h_newL w (ds := (([x19, x19, (⟨x55.1, 1⟩ : (Tp2 Int Int)), (⟨0, 1⟩ : (Tp2 Int Int)), x19, x49, x37] : List (Tp2 Int Int))).map enc) (K := K) (.cons r24 (.cons r24 (.cons r65 (.cons r70 (.cons r24 (.cons r54 (.cons r42 .nil))))))) (fun p71 B72 H73 s74 r75 => ?_) (by show 7 ≤ sizeLine; decide)
    replace m_state := m_state.step s74 nm0
    replace r24 := r24.mono s74.ex
    replace r42 := r42.mono s74.ex
    replace r54 := r54.mono s74.ex
    replace st := st.go s74 go0
    replace w := s74.ok
    replace r75 : Rep K B72 (.ref p71) (enc ([x19, x19, (⟨x55.1, 1⟩ : (Tp2 Int Int)), (⟨0, 1⟩ : (Tp2 Int Int)), x19, x49, x37] : List (Tp2 Int Int))) := r75
    refine h_var rfl ?_
    obtain ⟨p76, xs77, hv, hs78, hr79⟩ := Rep.sq w r75
    cases hv
    obtain ⟨x80, hx81, P⟩ := P.ix
    obtain ⟨u82, hu, r83⟩ := RepL.atE hr79 hx81
    refine h_ixL hs78 hu ?_
    exact P.ok _ _ _ st m_state r83
theorem ok__law_edit {f : Addr} {fd : FuncData}  (F : Fun K "_law_edit" "_law_edit" s__law_edit f fd) {f__law_digit : Addr} {d__law_digit : FuncData} (g__law_digit : mg "_law_digit" = some (.ref f__law_digit)) (k__law_digit : PySem.W.keepIn K (.ref f__law_digit) = true) (b__law_digit : L2.Binds K d__law_digit ["_law_state", "_law_base"] []) (G__law_digit : FnOk Pr wo K mg base CX0 1 f__law_digit d__law_digit ["_law_state", "_law_base"] (sp__law_digit K)) {f__law_plus : Addr} {d__law_plus : FuncData} (g__law_plus : mg "_law_plus" = some (.ref f__law_plus)) (k__law_plus : PySem.W.keepIn K (.ref f__law_plus) = true) (b__law_plus : L2.Binds K d__law_plus ["_law_one", "_law_other"] []) (G__law_plus : FnOk Pr wo K mg base CX0 3 f__law_plus d__law_plus ["_law_one", "_law_other"] (sp__law_plus K)) {f__law_amount : Addr} {d__law_amount : FuncData} (g__law_amount : mg "_law_amount" = some (.ref f__law_amount)) (k__law_amount : PySem.W.keepIn K (.ref f__law_amount) = true) (b__law_amount : L2.Binds K d__law_amount ["_law_state"] []) (G__law_amount : FnOk Pr wo K mg base CX0 3 f__law_amount d__law_amount ["_law_state"] (sp__law_amount K)) {f__law_lowest : Addr} {d__law_lowest : FuncData} (g__law_lowest : mg "_law_lowest" = some (.ref f__law_lowest)) (k__law_lowest : PySem.W.keepIn K (.ref f__law_lowest) = true) (b__law_lowest : L2.Binds K d__law_lowest ["_law_top", "_law_bottom"] []) (G__law_lowest : FnOk Pr wo K mg base CX0 2 f__law_lowest d__law_lowest ["_law_top", "_law_bottom"] (sp__law_lowest K)) {f__law_times : Addr} {d__law_times : FuncData} (g__law_times : mg "_law_times" = some (.ref f__law_times)) (k__law_times : PySem.W.keepIn K (.ref f__law_times) = true) (b__law_times : L2.Binds K d__law_times ["_law_one", "_law_other"] []) (G__law_times : FnOk Pr wo K mg base CX0 3 f__law_times d__law_times ["_law_one", "_law_other"] (sp__law_times K)) : FnOk Pr wo K mg base CX0 4 f fd ["_law_state", "_law_ahead"] (sp__law_edit K) := by
  refine F.ok sc__law_edit (fun vs H Q E h => ?_) (fun cdv A outer s H0 vs Q E hr h => ?_)
  · obtain ⟨_, _, _, _, _, _, rfl, _⟩ := h; rfl
  · obtain ⟨B0, p_state, a_state, v_ahead, a_ahead, w, rfl, m_state, r_ahead, P⟩ := h
    have w0 := w
    have hu := hu_of hr
    have hu64 := hu64_of hr
    have hu65 := hu65_of hr
    have hr1 : Room 1 _ := hr.mono (by decide)
    have hr2 : Room 2 _ := hr.mono (by decide)
    have hr3 : Room 3 _ := hr.mono (by decide)
    refine ⟨_, (pss_cons (ps_set (i := 2) sc__law_edit.nd rfl (by first | exact Or.inl rfl | exact Or.inr rfl) (pe_call G__law_digit hr1 rfl g__law_digit k__law_digit b__law_digit .nil pass0 (pa_cons (pv 0) (pa_cons pe_int pa_nil))))
      (pss_cons (ps_set (i := 3) sc__law_edit.nd rfl (by first | exact Or.inl rfl | exact Or.inr rfl) (pe_call G__law_plus hr3 rfl g__law_plus k__law_plus b__law_plus .nil pass0 (pa_cons (pe_call G__law_amount hr3 rfl g__law_amount k__law_amount b__law_amount .nil pass0 (pa_cons (pv 0) pa_nil)) (pa_cons (pe_call G__law_lowest hr2 rfl g__law_lowest k__law_lowest b__law_lowest .nil pass0 (pa_cons pe_int (pa_cons (pe_op op_add pe_int (pe_call G__law_digit hr1 rfl g__law_digit k__law_digit b__law_digit .nil pass0 (pa_cons (pv 0) (pa_cons pe_int pa_nil)))) pa_nil))) pa_nil))))
      (pss_cons (ps_set (i := 4) sc__law_edit.nd rfl (by first | exact Or.inl rfl | exact Or.inr rfl) (pe_call G__law_amount hr3 rfl g__law_amount k__law_amount b__law_amount .nil pass0 (pa_cons (pv 0) pa_nil)))
      (pss_cons (ps_set (i := 5) sc__law_edit.nd rfl (by first | exact Or.inl rfl | exact Or.inr rfl) (pe_ix (r := rIxL K) ix_list (pe_lst (pa_cons (pe_tup (pa_cons pe_int (pa_cons pe_int pa_nil))) (pa_cons (pe_tup (pa_cons pe_int (pa_cons pe_int pa_nil))) (pa_cons (pe_tup (pa_cons pe_int (pa_cons pe_int pa_nil))) (pa_cons (pe_tup (pa_cons pe_int (pa_cons pe_int pa_nil))) (pa_cons (pe_tup (pa_cons pe_int (pa_cons pe_int pa_nil))) (pa_cons (pe_call G__law_amount hr3 rfl g__law_amount k__law_amount b__law_amount .nil pass0 (pa_cons (pv 0) pa_nil)) pa_nil))))))) (pe_call G__law_digit hr1 rfl g__law_digit k__law_digit b__law_digit .nil pass0 (pa_cons (pv 0) (pa_cons pe_int pa_nil))) (fun _ _ => rfl)))
      (pss_cons (ps_if (pt_cmpR op_eq (pv 2) pe_int (nomark _)) (pss_one (ps_ret (pe_tup (pa_cons (pv 3) (pa_cons pe_non (pa_cons (pe_tup (pa_cons pe_int (pa_cons pe_int pa_nil))) pa_nil)))))) pss_nil)
      (pss_cons (ps_if (PW.pt (pw_and (pt_cmpR op_lt (pv 2) pe_int (nomark _)) (pw_and (pt_cmpR (r := rNeD K) (op_neD hu64) (pv 1) (pe_lst pa_nil) (nomark _)) (pw_and1 (pt_cmpR op_notNn (pe_ix (r := rIxT K) ix_tup (pe_ix (r := rIxL K) ix_list (pv 1) (pe_un un_neg pe_int) (fun _ _ => rfl)) pe_int (fun _ _ => rfl)) pe_non (nomark _)))))) (pss_cons (ps_set (i := 6) sc__law_edit.nd rfl (by first | exact Or.inl rfl | exact Or.inr rfl) (pe_ix (r := rIxL K) ix_list (pv 1) (pe_un un_neg pe_int) (fun _ _ => rfl)))
      (pss_one (ps_ret (pe_tup (pa_cons (pv 3) (pa_cons (pe_call G__law_plus hr3 rfl g__law_plus k__law_plus b__law_plus .nil pass0 (pa_cons (pe_ix (r := rIxT K) ix_tup (pv 6) pe_int (fun _ _ => rfl)) (pa_cons (pe_call G__law_times hr3 rfl g__law_times k__law_times b__law_times .nil pass0 (pa_cons (pe_ix (r := rIxT K) ix_tup (pv 6) pe_int (fun _ _ => rfl)) (pa_cons (pe_ix (r := rIxT K) ix_tup (pv 6) pe_int (fun _ _ => rfl)) pa_nil))) pa_nil))) (pa_cons (pe_ix (r := rIxT K) ix_tup (pv 6) pe_int (fun _ _ => rfl)) pa_nil))))))) pss_nil)
      (pss_one (ps_ret (pe_tup (pa_cons (pv 3) (pa_cons (pv 4) (pa_cons (pv 5) pa_nil)))))))))))), ?_⟩
    unfold l_edit at P
    have st := Stp.refl (W := [p_state]) w
    refine h_set ?_
    refine h_call ?_
    refine h_cons ?_
    refine h_var rfl ?_
    refine h_cons ?_
    refine h_c ?_
    refine h_nil ?_
    refine ⟨B0, p_state, a_state, 7, w, rfl, m_state, (P.bind).mono (fun x1 P => ?_) (fun _ z => z)⟩
    refine fun v5 B2 H3 s4 m_state r6 => ?_
    replace st := st.go s4 (go1 (.inl (by simp)))
    replace w := s4.ok
    cases r6
    refine h_set ?_
    refine h_call ?_
    refine h_cons ?_
    refine h_call ?_
    refine h_cons ?_
    refine h_var rfl ?_
    refine h_nil ?_
    refine ⟨B2, p_state, x1.2, w, rfl, m_state, (P.bind).mono (fun x7 P => ?_) (fun _ z => z)⟩
    refine fun v11 B8 H9 s10 m_state r12 => ?_
    replace st := st.go s10 (go1 (.inl (by simp)))
    replace w := s10.ok
    refine h_cons ?_
    refine h_call ?_
    refine h_cons ?_
    refine h_c ?_
    refine h_cons ?_
    refine h_op ?_
    refine h_c ?_
    refine h_call ?_
    refine h_cons ?_
    refine h_var rfl ?_
    refine h_cons ?_
    refine h_c ?_
    refine h_nil ?_
    refine ⟨B8, p_state, x7.2, 3, w, rfl, m_state, (P.bind).mono (fun x13 P => ?_) (fun _ z => z)⟩
    refine fun v17 B14 H15 s16 m_state r18 => ?_
    replace r12 := r12.mono s16.ex
    replace st := st.go s16 (go1 (.inl (by simp)))
    replace w := s16.ok
    cases r18
    refine h_I0 ?_
    refine h_nil ?_
    refine ⟨B14, 1, (1 + x13.1), w, rfl, (P.bind).mono (fun x19 P => ?_) (fun _ z => z)⟩
    refine fun v23 B20 H21 s22 r24 => ?_
    replace m_state := m_state.step s22 nm0
    replace r12 := r12.mono s22.ex
    replace st := st.go s22 go0
    replace w := s22.ok
    refine h_nil ?_
    refine ⟨B20, v11, x7.1, v23, x19, w, rfl, r12, r24, (P.bind).mono (fun x25 P => ?_) (fun _ z => z)⟩
    refine fun v29 B26 H27 s28 r30 => ?_
    replace m_state := m_state.step s28 nm0
    replace r12 := r12.mono s28.ex
    replace r24 := r24.mono s28.ex
    replace st := st.go s28 go0
    replace w := s28.ok
    refine h_set ?_
    refine h_call ?_
    refine h_cons ?_
    refine h_var rfl ?_
    refine h_nil ?_
    refine ⟨B26, p_state, x13.2, w, rfl, m_state, (P.bind).mono (fun x31 P => ?_) (fun _ z => z)⟩
    refine fun v35 B32 H33 s34 m_state r36 => ?_
    replace r30 := r30.mono s34.ex
    replace st := st.go s34 (go1 (.inl (by simp)))
    replace w := s34.ok
    refine h_set ?_
    refine h_op ?_
    refine h_lst ?_
    refine h_cons ?_
    refine h_tup ?_
    refine h_cons ?_
    refine h_c ?_
    refine h_cons ?_
    refine h_c ?_
    refine h_nil ?_
    refine h_newT w (K := K) (.cons (Rep.int _) (.cons (Rep.int _) .nil)) (fun p37 B38 H39 s40 r41 => ?_) (by show 2 ≤ sizeLine; decide)
    replace m_state := m_state.step s40 nm0
    replace r30 := r30.mono s40.ex
    replace r36 := r36.mono s40.ex
    replace st := st.go s40 go0
    replace w := s40.ok
    replace r41 : Rep K B38 (.ref p37) (enc (⟨1, 1⟩ : (Tp2 Int Int))) := r41
    refine h_cons ?_
    refine h_tup ?_
    refine h_cons ?_
    refine h_c ?_
    refine h_cons ?_
    refine h_c ?_
    refine h_nil ?_
    refine h_newT w (K := K) (.cons (Rep.int _) (.cons (Rep.int _) .nil)) (fun p42 B43 H44 s45 r46 => ?_) (by show 2 ≤ sizeLine; decide)
    replace m_state := m_state.step s45 nm0
    replace r30 := r30.mono s45.ex
    replace r36 := r36.mono s45.ex
    replace r41 := r41.mono s45.ex
    replace st := st.go s45 go0
    replace w := s45.ok
    replace r46 : Rep K B43 (.ref p42) (enc (⟨1, 1⟩ : (Tp2 Int Int))) := r46
    refine h_cons ?_
    refine h_tup ?_
    refine h_cons ?_
    refine h_c ?_
    refine h_cons ?_
    refine h_c ?_
    refine h_nil ?_
    refine h_newT w (K := K) (.cons (Rep.int _) (.cons (Rep.int _) .nil)) (fun p47 B48 H49 s50 r51 => ?_) (by show 2 ≤ sizeLine; decide)
    replace m_state := m_state.step s50 nm0
    replace r30 := r30.mono s50.ex
    replace r36 := r36.mono s50.ex
    replace r41 := r41.mono s50.ex
    replace r46 := r46.mono s50.ex
    replace st := st.go s50 go0
    replace w := s50.ok
    replace r51 : Rep K B48 (.ref p47) (enc (⟨0, 1⟩ : (Tp2 Int Int))) := r51
    refine h_cons ?_
    refine h_tup ?_
    refine h_cons ?_
    refine h_c ?_
    refine h_cons ?_
    refine h_c ?_
    refine h_nil ?_
    refine h_newT w (K := K) (.cons (Rep.int _) (.cons (Rep.int _) .nil)) (fun p52 B53 H54 s55 r56 => ?_) (by show 2 ≤ sizeLine; decide)
    replace m_state := m_state.step s55 nm0
    replace r30 := r30.mono s55.ex
    replace r36 := r36.mono s55.ex
    replace r41 := r41.mono s55.ex
    replace r46 := r46.mono s55.ex
    replace r51 := r51.mono s55.ex
    replace st := st.go s55 go0
    replace w := s55.ok
    replace r56 : Rep K B53 (.ref p52) (enc (⟨2, 1⟩ : (Tp2 Int Int))) := r56
    refine h_cons ?_
    refine h_tup ?_
    refine h_cons ?_
    refine h_c ?_
    refine h_cons ?_
    refine h_c ?_
    refine h_nil ?_
    refine h_newT w (K := K) (.cons (Rep.int _) (.cons (Rep.int _) .nil)) (fun p57 B58 H59 s60 r61 => ?_) (by show 2 ≤ sizeLine; decide)
    replace m_state := m_state.step s60 nm0
    replace r30 := r30.mono s60.ex
    replace r36 := r36.mono s60.ex
    replace r41 := r41.mono s60.ex
    replace r46 := r46.mono s60.ex
    replace r51 := r51.mono s60.ex
    replace r56 := r56.mono s60.ex
    replace st := st.go s60 go0
    replace w := s60.ok
    replace r61 : Rep K B58 (.ref p57) (enc (⟨1, 2⟩ : (Tp2 Int Int))) := r61
    refine h_cons ?_
    refine h_call ?_
    refine h_cons ?_
    refine h_var rfl ?_
    refine h_nil ?_
    refine ⟨B58, p_state, x31.2, w, rfl, m_state, (P.bind).mono (fun x62 P => ?_) (fun _ z => z)⟩
    refine fun v66 B63 H64 s65 m_state r67 => ?_
    replace r30 := r30.mono s65.ex
    replace r36 := r36.mono s65.ex
    replace r41 := r41.mono s65.ex
    replace r46 := r46.mono s65.ex
    replace r51 := r51.mono s65.ex
    replace r56 := r56.mono s65.ex
    replace r61 := r61.mono s65.ex
    replace st := st.go s65 (go1 (.inl (by simp)))
    replace w := s65.ok
    refine h_nil ?_
    refine h_newL w (ds := (([(⟨1, 1⟩ : (Tp2 Int Int)), (⟨1, 1⟩ : (Tp2 Int Int)), (⟨0, 1⟩ : (Tp2 Int Int)), (⟨2, 1⟩ : (Tp2 Int Int)), (⟨1, 2⟩ : (Tp2 Int Int)), x62.1] : List (Tp2 Int Int))).map enc) (K := K) (.cons r41 (.cons r46 (.cons r51 (.cons r56 (.cons r61 (.cons r67 .nil)))))) (fun p68 B69 H70 s71 r72 => ?_) (by show 6 ≤ sizeLine; decide)
    replace m_state := m_state.step s71 nm0
    replace r30 := r30.mono s71.ex
    replace r36 := r36.mono s71.ex
    replace st := st.go s71 go0
    replace w := s71.ok
    replace r72 : Rep K B69 (.ref p68) (enc ([(⟨1, 1⟩ : (Tp2 Int Int)), (⟨1, 1⟩ : (Tp2 Int Int)), (⟨0, 1⟩ : (Tp2 Int Int)), (⟨2, 1⟩ : (Tp2 Int Int)), (⟨1, 2⟩ : (Tp2 Int Int)), x62.1] : List (Tp2 Int Int))) := r72
    refine h_call ?_
    refine h_cons ?_
    refine h_var rfl ?_
    refine h_cons ?_
    refine h_c ?_
    refine h_nil ?_
    refine ⟨B69, p_state, x62.2, 6, w, rfl, m_state, (P.bind).mono (fun x73 P => ?_) (fun _ z => z)⟩
    refine fun v77 B74 H75 s76 m_state r78 => ?_
    replace r30 := r30.mono s76.ex
    replace r36 := r36.mono s76.ex
    replace r72 := r72.mono s76.ex
    replace st := st.go s76 (go1 (.inl (by simp)))
    replace w := s76.ok
    cases r78
    obtain ⟨p79, xs80, hv, hs81, hr82⟩ := Rep.sq w r72
    cases hv
    obtain ⟨x83, hx84, P⟩ := P.ix
    obtain ⟨u85, hu, r86⟩ := RepL.atE hr82 hx84
    refine h_ixL hs81 hu ?_
    refine h_seq <| h_if ?_
    refine h_test ?_
    refine h_op ?_
    refine h_var rfl ?_
    refine h_c ?_
    refine h_eqI ?_
    refine h_bl ?_
    refine h_ite (fun c1 => ?_) (fun c1 => ?_)
    · replace P := P.iteT c1
      refine h_ret ?_
      refine h_tup ?_
      refine h_cons ?_
      refine h_var rfl ?_
      refine h_cons ?_
      refine h_c ?_
      refine h_cons ?_
      refine h_tup ?_
      refine h_cons ?_
      refine h_c ?_
      refine h_cons ?_
      refine h_c ?_
      refine h_nil ?_
      refine h_newT w (K := K) (.cons (Rep.int _) (.cons (Rep.int _) .nil)) (fun p87 B88 H89 s90 r91 => ?_) (by show 2 ≤ sizeLine; decide)
      replace m_state := m_state.step s90 nm0
      replace r30 := r30.mono s90.ex
      replace r36 := r36.mono s90.ex
      replace r86 := r86.mono s90.ex
      replace st := st.go s90 go0
      replace w := s90.ok
      replace r91 : Rep K B88 (.ref p87) (enc (⟨0, 1⟩ : (Tp2 Int Int))) := r91
      refine h_nil ?_
      refine h_newT w (K := K) (.cons r30 (.cons Rep.non (.cons r91 .nil))) (fun p92 B93 H94 s95 r96 => ?_) (by show 3 ≤ sizeLine; decide)
      replace m_state := m_state.step s95 nm0
      replace r30 := r30.mono s95.ex
      replace r36 := r36.mono s95.ex
      replace r86 := r86.mono s95.ex
      replace st := st.go s95 go0
      replace w := s95.ok
      replace r96 : Rep K B93 (.ref p92) (enc (⟨x25, (), (⟨0, 1⟩ : (Tp2 Int Int))⟩ : (Tp3 (Tp2 Int Int) Unit (Tp2 Int Int)))) := r96
      exact P.ok _ _ _ st m_state r96
    · replace P := P.iteF c1
      refine h_next ?_
      refine h_nx ?_
      refine h_seq <| h_if ?_
      have wj98 := w
      have sj97 := Stp.refl (W := []) w
      refine h_condJ P (fun H' => ∃ B', Stp [] B74 H75 B' H') (fun N kk99 P => ?_) ?_
      · skip
        refine h_tand ?_
        refine h_test ?_
        refine h_op ?_
        refine h_var rfl ?_
        refine h_c ?_
        refine h_I0 ?_
        refine h_bl ?_
        refine h_ite (fun c1 => ?_) (fun c1 => ?_)
        · replace P := P.iteT c1
          refine h_tand ?_
          refine h_test ?_
          refine h_op ?_
          refine h_var rfl ?_
          refine h_lst ?_
          refine h_nil ?_
          refine h_newL w (ds := (([] : List D)).map enc) (K := K) .nil (fun p100 B101 H102 s103 r104 => ?_) (by show 0 ≤ sizeLine; decide)
          replace m_state := m_state.step s103 nm0
          replace r30 := r30.mono s103.ex
          replace r36 := r36.mono s103.ex
          replace r86 := r86.mono s103.ex
          replace st := st.go s103 go0
          replace sj97 := sj97.go s103 go0
          replace w := s103.ok
          replace r104 : Rep K B101 (.ref p100) (enc ([] : List D)) := r104
          obtain ⟨gd, P⟩ := P.guard
          obtain ⟨p105, xs106, rfl, hs107, hr108⟩ := Bor.sq (r_ahead.step st)
          refine h_neC (d := (enc a_ahead)) (e := (enc ([] : List D))) (SqL.cp w hs107 hr108) (Rep.cp w r104) gd ?_
          refine h_bl ?_
          refine h_ite (fun c1 => ?_) (fun c1 => ?_)
          · replace P := P.iteT c1
            refine h_test ?_
            refine h_op ?_
            refine h_op ?_
            refine h_op ?_
            refine h_var rfl ?_
            refine h_un ?_
            refine h_c ?_
            refine h_U ?_
            obtain ⟨p109, xs110, hv, hs111, hr112⟩ := Bor.sq (r_ahead.step st)
            cases hv
            obtain ⟨x113, hx114, P⟩ := P.ix
            obtain ⟨u115, hu, r116⟩ := RepL.atE hr112 hx114
            refine h_ixL hs111 hu ?_
            refine h_c ?_
            obtain ⟨p117, xs118, rfl, hs119, hr120⟩ := Rep.st w r116
            obtain ⟨u121, hu, r122⟩ := RepL.at hr120 (i := 1) rfl
            refine h_ixT hs119 hu ?_
            refine h_c ?_
            refine h_notN r122 ?_
            refine h_bl ?_
            exact kk99 _ _ ⟨_, sj97⟩ P.ok
          · replace P := P.iteF c1
            exact kk99 _ _ ⟨_, sj97⟩ P.ok
        · replace P := P.iteF c1
          exact kk99 _ _ ⟨_, sj97⟩ P.ok
      rintro b123 H125 ⟨B124, s126⟩ P
      replace m_state := m_state.step s126 nm0
      replace r30 := r30.mono s126.ex
      replace r36 := r36.mono s126.ex
      replace r86 := r86.mono s126.ex
      replace st := st.go s126 go0
      replace w := s126.ok
      refine h_ite (fun c1 => ?_) (fun c1 => ?_)
      · replace P := P.iteT c1
        refine h_set ?_
        refine h_op ?_
        refine h_var rfl ?_
        refine h_un ?_
        refine h_c ?_
        refine h_U ?_
        obtain ⟨p127, xs128, rfl, hs129, hr130⟩ := Bor.sq (r_ahead.step st)
        obtain ⟨x131, hx132, P⟩ := P.ix
        obtain ⟨u133, hu, r134⟩ := RepL.atE hr130 hx132
        refine h_ixL hs129 hu ?_
        refine h_ret ?_
        refine h_tup ?_
        refine h_cons ?_
        refine h_var rfl ?_
        refine h_cons ?_
        refine h_call ?_
        refine h_cons ?_
        refine h_op ?_
        refine h_var rfl ?_
        refine h_c ?_
        obtain ⟨p135, xs136, rfl, hs137, hr138⟩ := Rep.st w r134
        obtain ⟨u139, hu, r140⟩ := RepL.at hr138 (i := 1) rfl
        refine h_ixT hs137 hu ?_
        refine h_cons ?_
        refine h_call ?_
        refine h_cons ?_
        refine h_op ?_
        refine h_var rfl ?_
        refine h_c ?_
        obtain ⟨p141, xs142, hv, hs143, hr144⟩ := Rep.st w r134
        cases hv
        obtain ⟨u145, hu, r146⟩ := RepL.at hr144 (i := 2) rfl
        refine h_ixT hs143 hu ?_
        refine h_cons ?_
        refine h_op ?_
        refine h_var rfl ?_
        refine h_c ?_
        obtain ⟨p147, xs148, hv, hs149, hr150⟩ := Rep.st w r134
        cases hv
        obtain ⟨u151, hu, r152⟩ := RepL.at hr150 (i := 0) rfl
        refine h_ixT hs149 hu ?_
        refine h_nil ?_
        refine ⟨B124, u145, x131.c, u151, x131.a, w, rfl, r146, r152, (P.bind).mono (fun x153 P => ?_) (fun _ z => z)⟩
        refine fun v157 B154 H155 s156 r158 => ?_
        replace m_state := m_state.step s156 nm0
        replace r30 := r30.mono s156.ex
        replace r36 := r36.mono s156.ex
        replace r86 := r86.mono s156.ex
        replace r134 := r134.mono s156.ex
        replace r140 := r140.mono s156.ex
        replace r146 := r146.mono s156.ex
        replace r152 := r152.mono s156.ex
        replace st := st.go s156 go0
        replace w := s156.ok
        refine h_nil ?_
        obtain ⟨x159, hx160, P⟩ := P.some
        have rc161 := r140
        rw [hx160] at rc161
        replace rc161 : Rep K B154 u139 (enc x159) := rc161
        refine ⟨B154, u139, x159, v157, x153, w, rfl, rc161, r158, (P.bind).mono (fun x162 P => ?_) (fun _ z => z)⟩
        refine fun v166 B163 H164 s165 r167 => ?_
        replace m_state := m_state.step s165 nm0
        replace r30 := r30.mono s165.ex
        replace r36 := r36.mono s165.ex
        replace r86 := r86.mono s165.ex
        replace r134 := r134.mono s165.ex
        replace r140 := r140.mono s165.ex
        replace r158 := r158.mono s165.ex
        replace st := st.go s165 go0
        replace w := s165.ok
        refine h_cons ?_
        refine h_op ?_
        refine h_var rfl ?_
        refine h_c ?_
        obtain ⟨p168, xs169, hv, hs170, hr171⟩ := Rep.st w r134
        cases hv
        obtain ⟨u172, hu, r173⟩ := RepL.at hr171 (i := 2) rfl
        refine h_ixT hs170 hu ?_
        refine h_nil ?_
        refine h_newT w (K := K) (.cons r30 (.cons r167 (.cons r173 .nil))) (fun p174 B175 H176 s177 r178 => ?_) (by show 3 ≤ sizeLine; decide)
        replace m_state := m_state.step s177 nm0
        replace r30 := r30.mono s177.ex
        replace r36 := r36.mono s177.ex
        replace r86 := r86.mono s177.ex
        replace r134 := r134.mono s177.ex
        replace st := st.go s177 go0
        replace w := s177.ok
        replace r178 : Rep K B175 (.ref p174) (enc (⟨x25, x162, x131.c⟩ : (Tp3 (Tp2 Int Int) (Tp2 Int Int) (Tp2 Int Int)))) := r178
        exact P.ok _ _ _ st m_state r178
      · replace P := P.iteF c1
        refine h_next ?_
        refine h_nx ?_
        refine h_ret ?_
        refine h_tup ?_
        refine h_cons ?_
        refine h_var rfl ?_
        refine h_cons ?_
        refine h_var rfl ?_
        refine h_cons ?_
        refine h_var rfl ?_
        refine h_nil ?_
        refine h_newT w (K := K) (.cons r30 (.cons r36 (.cons r86 .nil))) (fun p179 B180 H181 s182 r183 => ?_) (by show 3 ≤ sizeLine; decide)
        replace m_state := m_state.step s182 nm0
        replace r30 := r30.mono s182.ex
        replace r36 := r36.mono s182.ex
        replace r86 := r86.mono s182.ex
        replace st := st.go s182 go0
        replace w := s182.ok
        replace r183 : Rep K B180 (.ref p179) (enc (⟨x25, x31.1, x83⟩ : (Tp3 (Tp2 Int Int) (Tp2 Int Int) (Tp2 Int Int)))) := r183
        exact P.ok _ _ _ st m_state r183
theorem ok__law_edits {f : Addr} {fd : FuncData}  (F : Fun K "_law_edits" "_law_edits" s__law_edits f fd) {f__law_digit : Addr} {d__law_digit : FuncData} (g__law_digit : mg "_law_digit" = some (.ref f__law_digit)) (k__law_digit : PySem.W.keepIn K (.ref f__law_digit) = true) (b__law_digit : L2.Binds K d__law_digit ["_law_state", "_law_base"] []) (G__law_digit : FnOk Pr wo K mg base CX0 1 f__law_digit d__law_digit ["_law_state", "_law_base"] (sp__law_digit K)) {f__law_edit : Addr} {d__law_edit : FuncData} (g__law_edit : mg "_law_edit" = some (.ref f__law_edit)) (k__law_edit : PySem.W.keepIn K (.ref f__law_edit) = true) (b__law_edit : L2.Binds K d__law_edit ["_law_state", "_law_ahead"] []) (G__law_edit : FnOk Pr wo K mg base CX0 4 f__law_edit d__law_edit ["_law_state", "_law_ahead"] (sp__law_edit K)) (bI_range : mg "range" = none) : FnOk Pr wo K mg base CX0 5 f fd ["_law_state", "_law_few"] (sp__law_edits K) := by
  refine F.ok sc__law_edits (fun vs H Q E h => ?_) (fun cdv A outer s H0 vs Q E hr h => ?_)
  · obtain ⟨_, _, _, _, _, rfl, _⟩ := h; rfl
  · obtain ⟨B0, p_state, a_state, a_few, w, rfl, m_state, P⟩ := h
    have w0 := w
    have hu := hu_of hr
    have hu64 := hu64_of hr
    have hu65 := hu65_of hr
    have hr1 : Room 1 _ := hr.mono (by decide)
    have hr4 : Room 4 _ := hr.mono (by decide)
    refine ⟨_, (pss_cons (ps_set (i := 2) sc__law_edits.nd rfl (by first | exact Or.inl rfl | exact Or.inr rfl) (pe_lst pa_nil))
      (pss_cons (ps_for PassesOwn.never rfl (pi_range1 (by rfl) bI_range (pa_cons (pe_call G__law_digit hr1 rfl g__law_digit k__law_digit b__law_digit .nil pass0 (pa_cons (pv 0) (pa_cons (pe_op op_add (pv 1) pe_int) pa_nil))) pa_nil)) (pg_name (i := 3) sc__law_edits.nd rfl (by first | exact Or.inl rfl | exact Or.inr rfl)) (pss_one (ps_expr (pe_bm PySem.F.plainAttrs_list PySem.F.slot_list_append PySem.F.type_list_append mt_append (pv 2) (pa_cons (pe_call G__law_edit hr4 rfl g__law_edit k__law_edit b__law_edit .nil pass0 (pa_cons (pv 0) (pa_cons (pv 2) pa_nil))) pa_nil)))))
      (pss_one (ps_ret (pv 2))))), ?_⟩
    unfold l_edits at P
    have st := Stp.refl (W := [p_state]) w
    refine h_set ?_
    refine h_lst ?_
    refine h_nil ?_
    refine h_newM w (ds := (([] : List (Tp3 (Tp2 Int Int) (Option (Tp2 Int Int)) (Tp2 Int Int)))).map enc) (K := K) .nil (fun p1 H2 hn5 s3 m4 => ?_) (by show 0 ≤ sizeLine; decide)
    have n6 := st.nn hn5
    have ne7 := Mu.ne m_state hn5
    replace m_state := m_state.step s3 nm0
    replace st := st.go s3 go0
    replace w := s3.ok
    refine h_seq ?_
    refine h_rng1 ?_
    refine h_cons ?_
    refine h_call ?_
    refine h_cons ?_
    refine h_var rfl ?_
    refine h_cons ?_
    refine h_op ?_
    refine h_var rfl ?_
    refine h_c ?_
    refine h_I0 ?_
    refine h_nil ?_
    refine ⟨B0, p_state, a_state, (a_few + 1), w, rfl, m_state, (P.bind).mono (fun x8 P => ?_) (fun _ z => z)⟩
    refine fun v12 B9 H10 s11 m_state r13 => ?_
    replace m4 := m4.step s11 (nm1 ne7.symm)
    replace st := st.go s11 (go1 (.inl (by simp)))
    replace w := s11.ok
    cases r13
    refine h_nil ?_
    obtain ⟨gz14, P⟩ := P.guard
    have wj16 := w
    have sj15 := Stp.refl (W := [p1, p_state]) w
    refine h_forR1 P gz14 (fun (a : (List (Tp3 (Tp2 Int Int) (Option (Tp2 Int Int)) (Tp2 Int Int))) × (List Int)) σ' H' => ∃ (B' : Hp) (o__law_k : Option V), Stp [p1, p_state] B9 H10 B' H' ∧ σ' = [some ((.ref p_state)), some (.int a_few), some ((.ref p1)), o__law_k] ∧ Mu K B' H' p1 (a.1.map enc) ∧ Mu K B' H' p_state (a.2.map enc)) ⟨_, _, sj15, rfl, m4, m_state⟩ ?_ ?_
    · rintro N17 T18 x23 a22 _ H27 ⟨B26, o29, s28, rfl, m4, m_state⟩ hlox23 hhix23 kk19 kr20 kb21 P
      replace st := st.go s28 (go2 (.inr n6) (.inl (by simp)))
      replace w := s28.ok
      have sj15 := s28
      refine h_gname ?_
      refine h_drop ?_
      refine h_bm ?_
      refine h_var rfl ?_
      refine h_bmL m4 ?_
      refine h_cons ?_
      refine h_call ?_
      refine h_cons ?_
      refine h_var rfl ?_
      refine h_cons ?_
      refine h_var rfl ?_
      refine h_nil ?_
      refine ⟨B26, p_state, a22.2, (.ref p1), a22.1, w, rfl, m_state, (m4.bor (nm1 ne7.symm)), (P.bind).mono (fun x30 P => ?_) (fun _ z => z)⟩
      refine fun v34 B31 H32 s33 m_state r35 => ?_
      replace m4 := m4.step s33 (nm1 ne7.symm)
      replace st := st.go s33 (go1 (.inl (by simp)))
      replace sj15 := sj15.go s33 (go1 (.inl (by simp)))
      replace w := s33.ok
      refine h_nil ?_
      obtain ⟨gd, P⟩ := P.guard
      refine h_append (b := x30.1) w m4 r35 gd (fun H36 s37 m4 => ?_)
      replace m_state := m_state.step s37 (nm1 ne7)
      replace st := st.go s37 (go1 (.inr n6))
      replace sj15 := sj15.go s37 (go1 (.inl (by simp)))
      replace w := s37.ok
      refine h_nx ?_
      exact kk19 ((a22.1 ++ [x30.1]), x30.2) _ _ ⟨_, _, sj15, rfl, m4, m_state⟩ P.ok
    · rintro a38 _ H40 ⟨B39, o42, s41, rfl, m4, m_state⟩ P
      replace st := st.go s41 (go2 (.inr n6) (.inl (by simp)))
      replace w := s41.ok
      refine h_nx ?_
      refine h_ret ?_
      refine h_var rfl ?_
      obtain ⟨B47, e43, k44, g45, r46⟩ := Mu.keep m4
      replace st := g45 _ _ _ st w0 n6
      replace m_state := m_state.kp e43 k44 ne7
      replace w := st.ok
      replace r46 : Rep K B47 (.ref p1) (enc a38.1) := r46
      exact P.ok _ _ _ st m_state r46
theorem ok__law_odd_edit {f : Addr} {fd : FuncData}  (F : Fun K "_law_odd_edit" "_law_odd_edit" s__law_odd_edit f fd) {f__law_digit : Addr} {d__law_digit : FuncData} (g__law_digit : mg "_law_digit" = some (.ref f__law_digit)) (k__law_digit : PySem.W.keepIn K (.ref f__law_digit) = true) (b__law_digit : L2.Binds K d__law_digit ["_law_state", "_law_base"] []) (G__law_digit : FnOk Pr wo K mg base CX0 1 f__law_digit d__law_digit ["_law_state", "_law_base"] (sp__law_digit K)) (bI_int : mg "int" = none) (bI_len : mg "len" = none) (bI_list : mg "list" = none) : FnOk Pr wo K mg base CX0 2 f fd ["_law_state", "_law_edit_here"] (sp__law_odd_edit K) := by
  refine F.ok sc__law_odd_edit (fun vs H Q E h => ?_) (fun cdv A outer s H0 vs Q E hr h => ?_)
  · obtain ⟨_, _, _, _, _, _, rfl, _⟩ := h; rfl
  · obtain ⟨B0, p_state, a_state, v_edit_here, a_edit_here, w, rfl, m_state, r_edit_here, P⟩ := h
    have w0 := w
    have hu := hu_of hr
    have hu64 := hu64_of hr
    have hu65 := hu65_of hr
    have hr1 : Room 1 _ := hr.mono (by decide)
    refine ⟨_, (pss_cons (ps_asg (pv 1) (pg_tupK (K := K) (n := 3) rfl rfl (pgs_cons (pg_name (i := 2) sc__law_odd_edit.nd rfl (by first | exact Or.inl rfl | exact Or.inr rfl)) (pgs_cons (pg_name (i := 3) sc__law_odd_edit.nd rfl (by first | exact Or.inl rfl | exact Or.inr rfl)) (pgs_cons (pg_name (i := 4) sc__law_odd_edit.nd rfl (by first | exact Or.inl rfl | exact Or.inr rfl)) pgs_nil)))))
      (pss_cons (ps_set (i := 5) sc__law_odd_edit.nd rfl (by first | exact Or.inl rfl | exact Or.inr rfl) (pe_ix (r := rIxL K) ix_list (pe_lst (pa_cons (pv 3) (pa_cons (pe_tup (pa_cons pe_int (pa_cons pe_int pa_nil))) pa_nil))) (pe_callTy cr_int (by rfl) bI_int Y.boot_int (pa_cons (pe_cmpR op_isNn (pv 3) pe_non (nomark _)) pa_nil)) (fun _ _ => rfl)))
      (pss_cons (ps_set (i := 6) sc__law_odd_edit.nd rfl (by first | exact Or.inl rfl | exact Or.inr rfl) (pe_lst (pa_cons pe_non (pa_cons pe_int (pa_cons (pe_tup pa_nil) (pa_cons (pe_tup (pa_cons (pv 2) (pa_cons (pv 3) pa_nil))) (pa_cons (pe_tup (pa_cons (pv 2) (pa_cons (pv 3) (pa_cons (pv 4) (pa_cons (pv 4) pa_nil))))) (pa_cons (pe_lst (pa_cons (pv 2) (pa_cons (pv 3) (pa_cons (pv 4) pa_nil)))) (pa_cons pe_str (pa_cons pe_bl (pa_cons pe_dnewK pa_nil)))))))))))
      (pss_cons (ps_set (i := 6) sc__law_odd_edit.nd rfl (by first | exact Or.inl rfl | exact Or.inr rfl) (pe_op (r := rCatQ K) op_catQ (pv 6) (pe_lst (pa_cons (pe_tup (pa_cons (pe_tup (pa_cons pe_int (pa_cons pe_int pa_nil))) (pa_cons (pv 3) (pa_cons (pv 4) pa_nil)))) (pa_cons (pe_tup (pa_cons (pe_tup (pa_cons (pe_un un_neg pe_int) (pa_cons pe_int pa_nil))) (pa_cons (pv 3) (pa_cons (pv 4) pa_nil)))) (pa_cons (pe_tup (pa_cons (pe_tup (pa_cons pe_int (pa_cons pe_int pa_nil))) (pa_cons (pv 3) (pa_cons (pv 4) pa_nil)))) (pa_cons (pe_tup (pa_cons pe_int (pa_cons (pv 3) (pa_cons (pv 4) pa_nil)))) pa_nil)))))))
      (pss_cons (ps_set (i := 6) sc__law_odd_edit.nd rfl (by first | exact Or.inl rfl | exact Or.inr rfl) (pe_op (r := rCatQ K) op_catQ (pv 6) (pe_lst (pa_cons (pe_tup (pa_cons (pe_tup (pa_cons pe_bl (pa_cons pe_int pa_nil))) (pa_cons (pv 3) (pa_cons (pv 4) pa_nil)))) (pa_cons (pe_tup (pa_cons pe_non (pa_cons (pv 3) (pa_cons (pv 4) pa_nil)))) (pa_cons (pe_tup (pa_cons (pv 2) (pa_cons (pe_tup (pa_cons (pe_un un_neg pe_int) (pa_cons pe_int pa_nil))) (pa_cons (pe_tup (pa_cons pe_int (pa_cons pe_int pa_nil))) pa_nil)))) (pa_cons (pe_tup (pa_cons (pv 2) (pa_cons (pe_tup (pa_cons pe_int (pa_cons pe_int pa_nil))) (pa_cons (pe_tup (pa_cons pe_int (pa_cons pe_int pa_nil))) pa_nil)))) pa_nil)))))))
      (pss_cons (ps_set (i := 6) sc__law_odd_edit.nd rfl (by first | exact Or.inl rfl | exact Or.inr rfl) (pe_op (r := rCatQ K) op_catQ (pv 6) (pe_lst (pa_cons (pe_tup (pa_cons (pv 2) (pa_cons pe_int (pa_cons (pe_tup (pa_cons pe_int (pa_cons pe_int pa_nil))) pa_nil)))) (pa_cons (pe_tup (pa_cons (pv 2) (pa_cons pe_bl (pa_cons (pe_tup (pa_cons pe_int (pa_cons pe_int pa_nil))) pa_nil)))) (pa_cons (pe_tup (pa_cons (pv 2) (pa_cons pe_str (pa_cons (pe_tup (pa_cons pe_int (pa_cons pe_int pa_nil))) pa_nil)))) (pa_cons (pe_tup (pa_cons (pv 2) (pa_cons (pv 5) (pa_cons (pe_tup (pa_cons (pe_un un_neg pe_int) (pa_cons pe_int pa_nil))) pa_nil)))) pa_nil)))))))
      (pss_cons (ps_set (i := 6) sc__law_odd_edit.nd rfl (by first | exact Or.inl rfl | exact Or.inr rfl) (pe_op (r := rCatQ K) op_catQ (pv 6) (pe_lst (pa_cons (pe_tup (pa_cons (pv 2) (pa_cons (pv 5) (pa_cons pe_non pa_nil)))) (pa_cons (pe_tup (pa_cons (pv 2) (pa_cons (pv 5) (pa_cons (pe_tup (pa_cons pe_int (pa_cons pe_int pa_nil))) pa_nil)))) (pa_cons (pe_tup (pa_cons (pv 2) (pa_cons (pv 5) (pa_cons pe_int pa_nil)))) (pa_cons (pe_tup (pa_cons (pv 2) (pa_cons pe_non (pa_cons (pe_tup (pa_cons pe_int (pa_cons pe_int pa_nil))) pa_nil)))) (pa_cons (pe_tup (pa_cons (pv 2) (pa_cons pe_non (pa_cons pe_non pa_nil)))) pa_nil))))))))
      (pss_cons (ps_set (i := 6) sc__law_odd_edit.nd rfl (by first | exact Or.inl rfl | exact Or.inr rfl) (pe_op (r := rCatQ K) op_catQ (pv 6) (pe_lst (pa_cons (pe_tup (pa_cons (pv 2) (pa_cons (pv 5) (pa_cons (pe_tup (pa_cons pe_int (pa_cons pe_int pa_nil))) pa_nil)))) (pa_cons (pe_tup (pa_cons (pv 2) (pa_cons (pe_tup (pa_cons pe_int (pa_cons (pe_un un_neg pe_int) pa_nil))) (pa_cons (pe_tup (pa_cons pe_int (pa_cons pe_int pa_nil))) pa_nil)))) (pa_cons (pe_tup (pa_cons (pv 2) (pa_cons pe_non (pa_cons pe_int pa_nil)))) (pa_cons (pe_tup (pa_cons (pe_callTy (r := rListY K) cr_list (by rfl) bI_list Y.boot_list (pa_cons (pv 2) pa_nil)) (pa_cons (pv 5) (pa_cons (pe_tup (pa_cons pe_int (pa_cons pe_int pa_nil))) pa_nil)))) pa_nil)))))))
      (pss_one (ps_ret (pe_ix (r := rIxL K) ix_list (pv 6) (pe_call G__law_digit hr1 rfl g__law_digit k__law_digit b__law_digit .nil pass0 (pa_cons (pv 0) (pa_cons (pe_callB (r := rLenY K) cr_len (by rfl) bI_len PySem.boot_len (pa_cons (pv 6) pa_nil)) pa_nil))) (fun _ _ => rfl)))))))))))), ?_⟩
    unfold l_odd_edit at P
    have st := Stp.refl (W := [p_state]) w
    refine h_seq ?_
    refine h_asg ?_
    refine h_var rfl ?_
    obtain ⟨p1, xs2, rfl, hs3, hr4⟩ := Rep.st w (r_edit_here.mono st.ex)
    obtain ⟨u5, u7, u9, rfl, r6, r8, r10⟩ := RepL.open3 hr4
    refine h_tupG hs3 rfl ?_
    refine h_gcons ?_
    refine h_gname ?_
    refine h_gcons ?_
    refine h_gname ?_
    refine h_gcons ?_
    refine h_gname ?_
    refine h_gnil ?_
    refine h_nx ?_
    refine h_set ?_
    refine h_op ?_
    refine h_lst ?_
    refine h_cons ?_
    refine h_var rfl ?_
    refine h_cons ?_
    refine h_tup ?_
    refine h_cons ?_
    refine h_c ?_
    refine h_cons ?_
    refine h_c ?_
    refine h_nil ?_
    refine h_newT w (K := K) (.cons (Rep.int _) (.cons (Rep.int _) .nil)) (fun p11 B12 H13 s14 r15 => ?_) (by show 2 ≤ sizeLine; decide)
    replace m_state := m_state.step s14 nm0
    replace r6 := r6.mono s14.ex
    replace r8 := r8.mono s14.ex
    replace r10 := r10.mono s14.ex
    replace st := st.go s14 go0
    replace w := s14.ok
    replace r15 : Rep K B12 (.ref p11) (enc (⟨1, 1⟩ : (Tp2 Int Int))) := r15
    refine h_nil ?_
    refine h_newL w (ds := (([(enc a_edit_here.b), (enc (⟨1, 1⟩ : (Tp2 Int Int)))] : List D)).map enc) (K := K) (.cons r8 (.cons r15 .nil)) (fun p16 B17 H18 s19 r20 => ?_) (by show 2 ≤ sizeLine; decide)
    replace m_state := m_state.step s19 nm0
    replace r6 := r6.mono s19.ex
    replace r8 := r8.mono s19.ex
    replace r10 := r10.mono s19.ex
    replace st := st.go s19 go0
    replace w := s19.ok
    replace r20 : Rep K B17 (.ref p16) (enc ([(enc a_edit_here.b), (enc (⟨1, 1⟩ : (Tp2 Int Int)))] : List D)) := r20
    refine h_cb ?_
    refine h_cons ?_
    refine h_op ?_
    refine h_var rfl ?_
    refine h_c ?_
    refine h_isN r8 ?_
    refine h_nil ?_
    refine h_intB ?_
    obtain ⟨p21, xs22, hv, hs23, hr24⟩ := Rep.sq w r20
    cases hv
    obtain ⟨x25, hx26, P⟩ := P.ix
    obtain ⟨u27, hu, r28⟩ := RepL.atE hr24 hx26
    refine h_ixL hs23 hu ?_
    refine h_set ?_
    refine h_lst ?_
    refine h_cons ?_
    refine h_c ?_
    refine h_cons ?_
    refine h_c ?_
    refine h_cons ?_
    refine h_tup ?_
    refine h_nil ?_
    refine h_newT w (K := K) .nil (fun p29 B30 H31 s32 r33 => ?_) (by show 0 ≤ sizeLine; decide)
    replace m_state := m_state.step s32 nm0
    replace r6 := r6.mono s32.ex
    replace r8 := r8.mono s32.ex
    replace r10 := r10.mono s32.ex
    replace r28 := r28.mono s32.ex
    replace st := st.go s32 go0
    replace w := s32.ok
    replace r33 : Rep K B30 (.ref p29) (enc (.tup [] : D)) := r33
    refine h_cons ?_
    refine h_tup ?_
    refine h_cons ?_
    refine h_var rfl ?_
    refine h_cons ?_
    refine h_var rfl ?_
    refine h_nil ?_
    refine h_newT w (K := K) (.cons r6 (.cons r8 .nil)) (fun p34 B35 H36 s37 r38 => ?_) (by show 2 ≤ sizeLine; decide)
    replace m_state := m_state.step s37 nm0
    replace r6 := r6.mono s37.ex
    replace r8 := r8.mono s37.ex
    replace r10 := r10.mono s37.ex
    replace r28 := r28.mono s37.ex
    replace r33 := r33.mono s37.ex
    replace st := st.go s37 go0
    replace w := s37.ok
    replace r38 : Rep K B35 (.ref p34) (enc (⟨a_edit_here.a, a_edit_here.b⟩ : (Tp2 (Tp2 Int Int) (Option (Tp2 Int Int))))) := r38
    refine h_cons ?_
    refine h_tup ?_
    refine h_cons ?_
    refine h_var rfl ?_
    refine h_cons ?_
    refine h_var rfl ?_
    refine h_cons ?_
    refine h_var rfl ?_
    refine h_cons ?_
    refine h_var rfl ?_
    refine h_nil ?_
    refine h_newT w (K := K) (.cons r6 (.cons r8 (.cons r10 (.cons r10 .nil)))) (fun p39 B40 H41 s42 r43 => ?_) (by show 4 ≤ sizeLine; decide)
    replace m_state := m_state.step s42 nm0
    replace r6 := r6.mono s42.ex
    replace r8 := r8.mono s42.ex
    replace r10 := r10.mono s42.ex
    replace r28 := r28.mono s42.ex
    replace r33 := r33.mono s42.ex
    replace r38 := r38.mono s42.ex
    replace st := st.go s42 go0
    replace w := s42.ok
    replace r43 : Rep K B40 (.ref p39) (enc (⟨a_edit_here.a, a_edit_here.b, a_edit_here.c, a_edit_here.c⟩ : (Tp4 (Tp2 Int Int) (Option (Tp2 Int Int)) (Tp2 Int Int) (Tp2 Int Int)))) := r43
    refine h_cons ?_
    refine h_lst ?_
    refine h_cons ?_
    refine h_var rfl ?_
    refine h_cons ?_
    refine h_var rfl ?_
    refine h_cons ?_
    refine h_var rfl ?_
    refine h_nil ?_
    refine h_newL w (ds := (([(enc a_edit_here.a), (enc a_edit_here.b), (enc a_edit_here.c)] : List D)).map enc) (K := K) (.cons r6 (.cons r8 (.cons r10 .nil))) (fun p44 B45 H46 s47 r48 => ?_) (by show 3 ≤ sizeLine; decide)
    replace m_state := m_state.step s47 nm0
    replace r6 := r6.mono s47.ex
    replace r8 := r8.mono s47.ex
    replace r10 := r10.mono s47.ex
    replace r28 := r28.mono s47.ex
    replace r33 := r33.mono s47.ex
    replace r38 := r38.mono s47.ex
    replace r43 := r43.mono s47.ex
    replace st := st.go s47 go0
    replace w := s47.ok
    replace r48 : Rep K B45 (.ref p44) (enc ([(enc a_edit_here.a), (enc a_edit_here.b), (enc a_edit_here.c)] : List D)) := r48
    refine h_cons ?_
    refine h_c ?_
    refine h_cons ?_
    refine h_c ?_
    refine h_cons ?_
    refine h_dnew w (K := K) (fun p49 B50 H51 s52 r53 => ?_)
    replace m_state := m_state.step s52 nm0
    replace r6 := r6.mono s52.ex
    replace r8 := r8.mono s52.ex
    replace r10 := r10.mono s52.ex
    replace r28 := r28.mono s52.ex
    replace r33 := r33.mono s52.ex
    replace r38 := r38.mono s52.ex
    replace r43 := r43.mono s52.ex
    replace r48 := r48.mono s52.ex
    replace st := st.go s52 go0
    replace w := s52.ok
    refine h_nil ?_
    refine h_newL w (ds := (([(enc ()), (enc (5 : Int)), (.tup [] : D), (enc (⟨a_edit_here.a, a_edit_here.b⟩ : (Tp2 (Tp2 Int Int) (Option (Tp2 Int Int))))), (enc (⟨a_edit_here.a, a_edit_here.b, a_edit_here.c, a_edit_here.c⟩ : (Tp4 (Tp2 Int Int) (Option (Tp2 Int Int)) (Tp2 Int Int) (Tp2 Int Int)))), (enc ([(enc a_edit_here.a), (enc a_edit_here.b), (enc a_edit_here.c)] : List D)), (enc ("edit" : Str)), (enc true), (.dic [] : D)] : List D)).map enc) (K := K) (.cons Rep.non (.cons (Rep.int _) (.cons r33 (.cons r38 (.cons r43 (.cons r48 (.cons (Rep.str _) (.cons (Rep.bl _) (.cons r53 .nil))))))))) (fun p54 B55 H56 s57 r58 => ?_) (by show 9 ≤ sizeLine; decide)
    replace m_state := m_state.step s57 nm0
    replace r6 := r6.mono s57.ex
    replace r8 := r8.mono s57.ex
    replace r10 := r10.mono s57.ex
    replace r28 := r28.mono s57.ex
    replace st := st.go s57 go0
    replace w := s57.ok
    replace r58 : Rep K B55 (.ref p54) (enc ([(enc ()), (enc (5 : Int)), (.tup [] : D), (enc (⟨a_edit_here.a, a_edit_here.b⟩ : (Tp2 (Tp2 Int Int) (Option (Tp2 Int Int))))), (enc (⟨a_edit_here.a, a_edit_here.b, a_edit_here.c, a_edit_here.c⟩ : (Tp4 (Tp2 Int Int) (Option (Tp2 Int Int)) (Tp2 Int Int) (Tp2 Int Int)))), (enc ([(enc a_edit_here.a), (enc a_edit_here.b), (enc a_edit_here.c)] : List D)), (enc ("edit" : Str)), (enc true), (.dic [] : D)] : List D)) := r58
    refine h_set ?_
    refine h_op ?_
    refine h_var rfl ?_
    refine h_lst ?_
    refine h_cons ?_
    refine h_tup ?_
    refine h_cons ?_
    refine h_tup ?_
    refine h_cons ?_
    refine h_c ?_
    refine h_cons ?_
    refine h_c ?_
    refine h_nil ?_
    refine h_newT w (K := K) (.cons (Rep.int _) (.cons (Rep.int _) .nil)) (fun p59 B60 H61 s62 r63 => ?_) (by show 2 ≤ sizeLine; decide)
    replace m_state := m_state.step s62 nm0
    replace r6 := r6.mono s62.ex
    replace r8 := r8.mono s62.ex
    replace r10 := r10.mono s62.ex
    replace r28 := r28.mono s62.ex
    replace r58 := r58.mono s62.ex
    replace st := st.go s62 go0
    replace w := s62.ok
    replace r63 : Rep K B60 (.ref p59) (enc (⟨0, 1⟩ : (Tp2 Int Int))) := r63
    refine h_cons ?_
    refine h_var rfl ?_
    refine h_cons ?_
    refine h_var rfl ?_
    refine h_nil ?_
    refine h_newT w (K := K) (.cons r63 (.cons r8 (.cons r10 .nil))) (fun p64 B65 H66 s67 r68 => ?_) (by show 3 ≤ sizeLine; decide)
    replace m_state := m_state.step s67 nm0
    replace r6 := r6.mono s67.ex
    replace r8 := r8.mono s67.ex
    replace r10 := r10.mono s67.ex
    replace r28 := r28.mono s67.ex
    replace r58 := r58.mono s67.ex
    replace st := st.go s67 go0
    replace w := s67.ok
    replace r68 : Rep K B65 (.ref p64) (enc (⟨(⟨0, 1⟩ : (Tp2 Int Int)), a_edit_here.b, a_edit_here.c⟩ : (Tp3 (Tp2 Int Int) (Option (Tp2 Int Int)) (Tp2 Int Int)))) := r68
    refine h_cons ?_
    refine h_tup ?_
    refine h_cons ?_
    refine h_tup ?_
    refine h_cons ?_
    refine h_un ?_
    refine h_c ?_
    refine h_U ?_
    refine h_cons ?_
    refine h_c ?_
    refine h_nil ?_
    refine h_newT w (K := K) (.cons (Rep.int _) (.cons (Rep.int _) .nil)) (fun p69 B70 H71 s72 r73 => ?_) (by show 2 ≤ sizeLine; decide)
    replace m_state := m_state.step s72 nm0
    replace r6 := r6.mono s72.ex
    replace r8 := r8.mono s72.ex
    replace r10 := r10.mono s72.ex
    replace r28 := r28.mono s72.ex
    replace r58 := r58.mono s72.ex
    replace r68 := r68.mono s72.ex
    replace st := st.go s72 go0
    replace w := s72.ok
    replace r73 : Rep K B70 (.ref p69) (enc (⟨(-1), 2⟩ : (Tp2 Int Int))) := r73
    refine h_cons ?_
    refine h_var rfl ?_
    refine h_cons ?_
    refine h_var rfl ?_
    refine h_nil ?_
    refine h_newT w (K := K) (.cons r73 (.cons r8 (.cons r10 .nil))) (fun p74 B75 H76 s77 r78 => ?_) (by show 3 ≤ sizeLine; decide)
    replace m_state := m_state.step s77 nm0
    replace r6 := r6.mono s77.ex
    replace r8 := r8.mono s77.ex
    replace r10 := r10.mono s77.ex
    replace r28 := r28.mono s77.ex
    replace r58 := r58.mono s77.ex
    replace r68 := r68.mono s77.ex
    replace st := st.go s77 go0
    replace w := s77.ok
    replace r78 : Rep K B75 (.ref p74) (enc (⟨(⟨(-1), 2⟩ : (Tp2 Int Int)), a_edit_here.b, a_edit_here.c⟩ : (Tp3 (Tp2 Int Int) (Option (Tp2 Int Int)) (Tp2 Int Int)))) := r78
    refine h_cons ?_
    refine h_tup ?_
    refine h_cons ?_
    refine h_tup ?_
    refine h_cons ?_
    refine h_c ?_
    refine h_cons ?_
    refine h_c ?_
    refine h_nil ?_
    refine h_newT w (K := K) (.cons (Rep.int _) (.cons (Rep.int _) .nil)) (fun p79 B80 H81 s82 r83 => ?_) (by show 2 ≤ sizeLine; decide)
    replace m_state := m_state.step s82 nm0
    replace r6 := r6.mono s82.ex
    replace r8 := r8.mono s82.ex
    replace r10 := r10.mono s82.ex
    replace r28 := r28.mono s82.ex
    replace r58 := r58.mono s82.ex
    replace r68 := r68.mono s82.ex
    replace r78 := r78.mono s82.ex
    replace st := st.go s82 go0
    replace w := s82.ok
    replace r83 : Rep K B80 (.ref p79) (enc (⟨2, 2⟩ : (Tp2 Int Int))) := r83
    refine h_cons ?_
    refine h_var rfl ?_
    refine h_cons ?_
    refine h_var rfl ?_
    refine h_nil ?_
    refine h_newT w (K := K) (.cons r83 (.cons r8 (.cons r10 .nil))) (fun p84 B85 H86 s87 r88 => ?_) (by show 3 ≤ sizeLine; decide)
    replace m_state := m_state.step s87 nm0
    replace r6 := r6.mono s87.ex
    replace r8 := r8.mono s87.ex
    replace r10 := r10.mono s87.ex
    replace r28 := r28.mono s87.ex
    replace r58 := r58.mono s87.ex
    replace r68 := r68.mono s87.ex
    replace r78 := r78.mono s87.ex
    replace st := st.go s87 go0
    replace w := s87.ok
    replace r88 : Rep K B85 (.ref p84) (enc (⟨(⟨2, 2⟩ : (Tp2 Int Int)), a_edit_here.b, a_edit_here.c⟩ : (Tp3 (Tp2 Int Int) (Option (Tp2 Int Int)) (Tp2 Int Int)))) := r88
    refine h_cons ?_
    refine h_tup ?_
    refine h_cons ?_
    refine h_c ?_
    refine h_cons ?_
    refine h_var rfl ?_
    refine h_cons ?_
    refine h_var rfl ?_
    refine h_nil ?_
    refine h_newT w (K := K) (.cons (Rep.int _) (.cons r8 (.cons r10 .nil))) (fun p89 B90 H91 s92 r93 => ?_) (by show 3 ≤ sizeLine; decide)
    replace m_state := m_state.step s92 nm0
    replace r6 := r6.mono s92.ex
    replace r8 := r8.mono s92.ex
    replace r10 := r10.mono s92.ex
    replace r28 := r28.mono s92.ex
    replace r58 := r58.mono s92.ex
    replace r68 := r68.mono s92.ex
    replace r78 := r78.mono s92.ex
    replace r88 := r88.mono s92.ex
    replace st := st.go s92 go0
    replace w := s92.ok
    replace r93 : Rep K B90 (.ref p89) (enc (⟨1, a_edit_here.b, a_edit_here.c⟩ : (Tp3 Int (Option (Tp2 Int Int)) (Tp2 Int Int)))) := r93
    refine h_nil ?_
    refine h_newL w (ds := (([(enc (⟨(⟨0, 1⟩ : (Tp2 Int Int)), a_edit_here.b, a_edit_here.c⟩ : (Tp3 (Tp2 Int Int) (Option (Tp2 Int Int)) (Tp2 Int Int)))), (enc (⟨(⟨(-1), 2⟩ : (Tp2 Int Int)), a_edit_here.b, a_edit_here.c⟩ : (Tp3 (Tp2 Int Int) (Option (Tp2 Int Int)) (Tp2 Int Int)))), (enc (⟨(⟨2, 2⟩ : (Tp2 Int Int)), a_edit_here.b, a_edit_here.c⟩ : (Tp3 (Tp2 Int Int) (Option (Tp2 Int Int)) (Tp2 Int Int)))), (enc (⟨1, a_edit_here.b, a_edit_here.c⟩ : (Tp3 Int (Option (Tp2 Int Int)) (Tp2 Int Int))))] : List D)).map enc) (K := K) (.cons r68 (.cons r78 (.cons r88 (.cons r93 .nil)))) (fun p94 B95 H96 s97 r98 => ?_) (by show 4 ≤ sizeLine; decide)
    replace m_state := m_state.step s97 nm0
    replace r6 := r6.mono s97.ex
    replace r8 := r8.mono s97.ex
    replace r10 := r10.mono s97.ex
    replace r28 := r28.mono s97.ex
    replace r58 := r58.mono s97.ex
    replace st := st.go s97 go0
    replace w := s97.ok
    replace r98 : Rep K B95 (.ref p94) (enc ([(enc (⟨(⟨0, 1⟩ : (Tp2 Int Int)), a_edit_here.b, a_edit_here.c⟩ : (Tp3 (Tp2 Int Int) (Option (Tp2 Int Int)) (Tp2 Int Int)))), (enc (⟨(⟨(-1), 2⟩ : (Tp2 Int Int)), a_edit_here.b, a_edit_here.c⟩ : (Tp3 (Tp2 Int Int) (Option (Tp2 Int Int)) (Tp2 Int Int)))), (enc (⟨(⟨2, 2⟩ : (Tp2 Int Int)), a_edit_here.b, a_edit_here.c⟩ : (Tp3 (Tp2 Int Int) (Option (Tp2 Int Int)) (Tp2 Int Int)))), (enc (⟨1, a_edit_here.b, a_edit_here.c⟩ : (Tp3 Int (Option (Tp2 Int Int)) (Tp2 Int Int))))] : List D)) := r98
    obtain ⟨p99, xs100, hv, hs101, hr102⟩ := Rep.sq w r58
    cases hv
    obtain ⟨p103, xs104, hv, hs105, hr106⟩ := Rep.sq w r98
    cases hv
    obtain ⟨gd, P⟩ := P.guard
    refine h_cat hs101 hs105 (by have g := gd; simp only [hr102.length, hr106.length, List.length_map] at g ⊢; exact Nat.le_trans g (by decide)) ?_
    refine h_nwL w (ds := ((([(enc ()), (enc (5 : Int)), (.tup [] : D), (enc (⟨a_edit_here.a, a_edit_here.b⟩ : (Tp2 (Tp2 Int Int) (Option (Tp2 Int Int))))), (enc (⟨a_edit_here.a, a_edit_here.b, a_edit_here.c, a_edit_here.c⟩ : (Tp4 (Tp2 Int Int) (Option (Tp2 Int Int)) (Tp2 Int Int) (Tp2 Int Int)))), (enc ([(enc a_edit_here.a), (enc a_edit_here.b), (enc a_edit_here.c)] : List D)), (enc ("edit" : Str)), (enc true), (.dic [] : D)] : List D) ++ ([(enc (⟨(⟨0, 1⟩ : (Tp2 Int Int)), a_edit_here.b, a_edit_here.c⟩ : (Tp3 (Tp2 Int Int) (Option (Tp2 Int Int)) (Tp2 Int Int)))), (enc (⟨(⟨(-1), 2⟩ : (Tp2 Int Int)), a_edit_here.b, a_edit_here.c⟩ : (Tp3 (Tp2 Int Int) (Option (Tp2 Int Int)) (Tp2 Int Int)))), (enc (⟨(⟨2, 2⟩ : (Tp2 Int Int)), a_edit_here.b, a_edit_here.c⟩ : (Tp3 (Tp2 Int Int) (Option (Tp2 Int Int)) (Tp2 Int Int)))), (enc (⟨1, a_edit_here.b, a_edit_here.c⟩ : (Tp3 Int (Option (Tp2 Int Int)) (Tp2 Int Int))))] : List D))).map enc) (K := K) (RepL.cat hr102 hr106) (fun p107 B108 H109 s110 r111 => ?_) 
    replace m_state := m_state.step s110 nm0
    replace r6 := r6.mono s110.ex
    replace r8 := r8.mono s110.ex
    replace r10 := r10.mono s110.ex
    replace r28 := r28.mono s110.ex
    replace r58 := r58.mono s110.ex
    replace st := st.go s110 go0
    replace w := s110.ok
    replace r111 : Rep K B108 (.ref p107) (enc (([(enc ()), (enc (5 : Int)), (.tup [] : D), (enc (⟨a_edit_here.a, a_edit_here.b⟩ : (Tp2 (Tp2 Int Int) (Option (Tp2 Int Int))))), (enc (⟨a_edit_here.a, a_edit_here.b, a_edit_here.c, a_edit_here.c⟩ : (Tp4 (Tp2 Int Int) (Option (Tp2 Int Int)) (Tp2 Int Int) (Tp2 Int Int)))), (enc ([(enc a_edit_here.a), (enc a_edit_here.b), (enc a_edit_here.c)] : List D)), (enc ("edit" : Str)), (enc true), (.dic [] : D)] : List D) ++ ([(enc (⟨(⟨0, 1⟩ : (Tp2 Int Int)), a_edit_here.b, a_edit_here.c⟩ : (Tp3 (Tp2 Int Int) (Option (Tp2 Int Int)) (Tp2 Int Int)))), (enc (⟨(⟨(-1), 2⟩ : (Tp2 Int Int)), a_edit_here.b, a_edit_here.c⟩ : (Tp3 (Tp2 Int Int) (Option (Tp2 Int Int)) (Tp2 Int Int)))), (enc (⟨(⟨2, 2⟩ : (Tp2 Int Int)), a_edit_here.b, a_edit_here.c⟩ : (Tp3 (Tp2 Int Int) (Option (Tp2 Int Int)) (Tp2 Int Int)))), (enc (⟨1, a_edit_here.b, a_edit_here.c⟩ : (Tp3 Int (Option (Tp2 Int Int)) (Tp2 Int Int))))] : List D))) := r111
    refine h_set ?_
    refine h_op ?_
    refine h_var rfl ?_
    refine h_lst ?_
    refine h_cons ?_
    refine h_tup ?_
    refine h_cons ?_
    refine h_tup ?_
    refine h_cons ?_
    refine h_c ?_
    refine h_cons ?_
    refine h_c ?_
    refine h_nil ?_
    refine h_newT w (K := K) (.cons (Rep.bl _) (.cons (Rep.int _) .nil)) (fun p112 B113 H114 s115 r116 => ?_) (by show 2 ≤ sizeLine; decide)
    replace m_state := m_state.step s115 nm0
    replace r6 := r6.mono s115.ex
    replace r8 := r8.mono s115.ex
    replace r10 := r10.mono s115.ex
    replace r28 := r28.mono s115.ex
    replace r111 := r111.mono s115.ex
    replace st := st.go s115 go0
    replace w := s115.ok
    replace r116 : Rep K B113 (.ref p112) (enc (⟨true, 1⟩ : (Tp2 Bool Int))) := r116
    refine h_cons ?_
    refine h_var rfl ?_
    refine h_cons ?_
    refine h_var rfl ?_
    refine h_nil ?_
    refine h_newT w (K := K) (.cons r116 (.cons r8 (.cons r10 .nil))) (fun p117 B118 H119 s120 r121 => ?_) (by show 3 ≤ sizeLine; decide)
    replace m_state := m_state.step s120 nm0
    replace r6 := r6.mono s120.ex
    replace r8 := r8.mono s120.ex
    replace r10 := r10.mono s120.ex
    replace r28 := r28.mono s120.ex
    replace r111 := r111.mono s120.ex
    replace st := st.go s120 go0
    replace w := s120.ok
    replace r121 : Rep K B118 (.ref p117) (enc (⟨(⟨true, 1⟩ : (Tp2 Bool Int)), a_edit_here.b, a_edit_here.c⟩ : (Tp3 (Tp2 Bool Int) (Option (Tp2 Int Int)) (Tp2 Int Int)))) := r121
    refine h_cons ?_
    refine h_tup ?_
    refine h_cons ?_
    refine h_c ?_
    refine h_cons ?_
    refine h_var rfl ?_
    refine h_cons ?_
    refine h_var rfl ?_
    refine h_nil ?_
    refine h_newT w (K := K) (.cons Rep.non (.cons r8 (.cons r10 .nil))) (fun p122 B123 H124 s125 r126 => ?_) (by show 3 ≤ sizeLine; decide)
    replace m_state := m_state.step s125 nm0
    replace r6 := r6.mono s125.ex
    replace r8 := r8.mono s125.ex
    replace r10 := r10.mono s125.ex
    replace r28 := r28.mono s125.ex
    replace r111 := r111.mono s125.ex
    replace r121 := r121.mono s125.ex
    replace st := st.go s125 go0
    replace w := s125.ok
    replace r126 : Rep K B123 (.ref p122) (enc (⟨(), a_edit_here.b, a_edit_here.c⟩ : (Tp3 Unit (Option (Tp2 Int Int)) (Tp2 Int Int)))) := r126
    refine h_cons ?_
    refine h_tup ?_
    refine h_cons ?_
    refine h_var rfl ?_
    refine h_cons ?_
    refine h_tup ?_
    refine h_cons ?_
    refine h_un ?_
    refine h_c ?_
    refine h_U ?_
    refine h_cons ?_
    refine h_c ?_
    refine h_nil ?_
    refine h_newT w (K := K) (.cons (Rep.int _) (.cons (Rep.int _) .nil)) (fun p127 B128 H129 s130 r131 => ?_) (by show 2 ≤ sizeLine; decide)
    replace m_state := m_state.step s130 nm0
    replace r6 := r6.mono s130.ex
    replace r8 := r8.mono s130.ex
    replace r10 := r10.mono s130.ex
    replace r28 := r28.mono s130.ex
    replace r111 := r111.mono s130.ex
    replace r121 := r121.mono s130.ex
    replace r126 := r126.mono s130.ex
    replace st := st.go s130 go0
    replace w := s130.ok
    replace r131 : Rep K B128 (.ref p127) (enc (⟨(-1), 1⟩ : (Tp2 Int Int))) := r131
    refine h_cons ?_
    refine h_tup ?_
    refine h_cons ?_
    refine h_c ?_
    refine h_cons ?_
    refine h_c ?_
    refine h_nil ?_
    refine h_newT w (K := K) (.cons (Rep.int _) (.cons (Rep.int _) .nil)) (fun p132 B133 H134 s135 r136 => ?_) (by show 2 ≤ sizeLine; decide)
    replace m_state := m_state.step s135 nm0
    replace r6 := r6.mono s135.ex
    replace r8 := r8.mono s135.ex
    replace r10 := r10.mono s135.ex
    replace r28 := r28.mono s135.ex
    replace r111 := r111.mono s135.ex
    replace r121 := r121.mono s135.ex
    replace r126 := r126.mono s135.ex
    replace r131 := r131.mono s135.ex
    replace st := st.go s135 go0
    replace w := s135.ok
    replace r136 : Rep K B133 (.ref p132) (enc (⟨1, 1⟩ : (Tp2 Int Int))) := r136
    refine h_nil ?_
    refine h_newT w (K := K) (.cons r6 (.cons r131 (.cons r136 .nil))) (fun p137 B138 H139 s140 r141 => ?_) (by show 3 ≤ sizeLine; decide)
    replace m_state := m_state.step s140 nm0
    replace r6 := r6.mono s140.ex
    replace r8 := r8.mono s140.ex
    replace r10 := r10.mono s140.ex
    replace r28 := r28.mono s140.ex
    replace r111 := r111.mono s140.ex
    replace r121 := r121.mono s140.ex
    replace r126 := r126.mono s140.ex
    replace st := st.go s140 go0
    replace w := s140.ok
    replace r141 : Rep K B138 (.ref p137) (enc (⟨a_edit_here.a, (⟨(-1), 1⟩ : (Tp2 Int Int)), (⟨1, 1⟩ : (Tp2 Int Int))⟩ : (Tp3 (Tp2 Int Int) (Tp2 Int Int) (Tp2 Int Int)))) := r141
    refine h_cons ?_
    refine h_tup ?_
    refine h_cons ?_
    refine h_var rfl ?_
    refine h_cons ?_
    refine h_tup ?_
    refine h_cons ?_
    refine h_c ?_
    refine h_cons ?_
    refine h_c ?_
    refine h_nil ?_
    refine h_newT w (K := K) (.cons (Rep.int _) (.cons (Rep.int _) .nil)) (fun p142 B143 H144 s145 r146 => ?_) (by show 2 ≤ sizeLine; decide)
    replace m_state := m_state.step s145 nm0
    replace r6 := r6.mono s145.ex
    replace r8 := r8.mono s145.ex
    replace r10 := r10.mono s145.ex
    replace r28 := r28.mono s145.ex
    replace r111 := r111.mono s145.ex
    replace r121 := r121.mono s145.ex
    replace r126 := r126.mono s145.ex
    replace r141 := r141.mono s145.ex
    replace st := st.go s145 go0
    replace w := s145.ok
    replace r146 : Rep K B143 (.ref p142) (enc (⟨2, 4⟩ : (Tp2 Int Int))) := r146
    refine h_cons ?_
    refine h_tup ?_
    refine h_cons ?_
    refine h_c ?_
    refine h_cons ?_
    refine h_c ?_
    refine h_nil ?_
    refine h_newT w (K := K) (.cons (Rep.int _) (.cons (Rep.int _) .nil)) (fun p147 B148 H149 s150 r151 => ?_) (by show 2 ≤ sizeLine; decide)
    replace m_state := m_state.step s150 nm0
    replace r6 := r6.mono s150.ex
    replace r8 := r8.mono s150.ex
    replace r10 := r10.mono s150.ex
    replace r28 := r28.mono s150.ex
    replace r111 := r111.mono s150.ex
    replace r121 := r121.mono s150.ex
    replace r126 := r126.mono s150.ex
    replace r141 := r141.mono s150.ex
    replace r146 := r146.mono s150.ex
    replace st := st.go s150 go0
    replace w := s150.ok
    replace r151 : Rep K B148 (.ref p147) (enc (⟨1, 1⟩ : (Tp2 Int Int))) := r151
    refine h_nil ?_
    refine h_newT w (K := K) (.cons r6 (.cons r146 (.cons r151 .nil))) (fun p152 B153 H154 s155 r156 => ?_) (by show 3 ≤ sizeLine; decide)
    replace m_state := m_state.step s155 nm0
    replace r6 := r6.mono s155.ex
    replace r8 := r8.mono s155.ex
    replace r10 := r10.mono s155.ex
    replace r28 := r28.mono s155.ex
    replace r111 := r111.mono s155.ex
    replace r121 := r121.mono s155.ex
    replace r126 := r126.mono s155.ex
    replace r141 := r141.mono s155.ex
    replace st := st.go s155 go0
    replace w := s155.ok
    replace r156 : Rep K B153 (.ref p152) (enc (⟨a_edit_here.a, (⟨2, 4⟩ : (Tp2 Int Int)), (⟨1, 1⟩ : (Tp2 Int Int))⟩ : (Tp3 (Tp2 Int Int) (Tp2 Int Int) (Tp2 Int Int)))) := r156
    refine h_nil ?_
    refine h_newL w (ds := (([(enc (⟨(⟨true, 1⟩ : (Tp2 Bool Int)), a_edit_here.b, a_edit_here.c⟩ : (Tp3 (Tp2 Bool Int) (Option (Tp2 Int Int)) (Tp2 Int Int)))), (enc (⟨(), a_edit_here.b, a_edit_here.c⟩ : (Tp3 Unit (Option (Tp2 Int Int)) (Tp2 Int Int)))), (enc (⟨a_edit_here.a, (⟨(-1), 1⟩ : (Tp2 Int Int)), (⟨1, 1⟩ : (Tp2 Int Int))⟩ : (Tp3 (Tp2 Int Int) (Tp2 Int Int) (Tp2 Int Int)))), (enc (⟨a_edit_here.a, (⟨2, 4⟩ : (Tp2 Int Int)), (⟨1, 1⟩ : (Tp2 Int Int))⟩ : (Tp3 (Tp2 Int Int) (Tp2 Int Int) (Tp2 Int Int))))] : List D)).map enc) (K := K) (.cons r121 (.cons r126 (.cons r141 (.cons r156 .nil)))) (fun p157 B158 H159 s160 r161 => ?_) (by show 4 ≤ sizeLine; decide)
    replace m_state := m_state.step s160 nm0
    replace r6 := r6.mono s160.ex
    replace r8 := r8.mono s160.ex
    replace r10 := r10.mono s160.ex
    replace r28 := r28.mono s160.ex
    replace r111 := r111.mono s160.ex
    replace st := st.go s160 go0
    replace w := s160.ok
    replace r161 : Rep K B158 (.ref p157) (enc ([(enc (⟨(⟨true, 1⟩ : (Tp2 Bool Int)), a_edit_here.b, a_edit_here.c⟩ : (Tp3 (Tp2 Bool Int) (Option (Tp2 Int Int)) (Tp2 Int Int)))), (enc (⟨(), a_edit_here.b, a_edit_here.c⟩ : (Tp3 Unit (Option (Tp2 Int Int)) (Tp2 Int Int)))), (enc (⟨a_edit_here.a, (⟨(-1), 1⟩ : (Tp2 Int Int)), (⟨1, 1⟩ : (Tp2 Int Int))⟩ : (Tp3 (Tp2 Int Int) (Tp2 Int Int) (Tp2 Int Int)))), (enc (⟨a_edit_here.a, (⟨2, 4⟩ : (Tp2 Int Int)), (⟨1, 1⟩ : (Tp2 Int Int))⟩ : (Tp3 (Tp2 Int Int) (Tp2 Int Int) (Tp2 Int Int))))] : List D)) := r161
    obtain ⟨p162, xs163, hv, hs164, hr165⟩ := Rep.sq w r111
    cases hv
    obtain ⟨p166, xs167, hv, hs168, hr169⟩ := Rep.sq w r161
    cases hv
    obtain ⟨gd, P⟩ := P.guard
    refine h_cat hs164 hs168 (by have g := gd; simp only [hr165.length, hr169.length, List.length_map] at g ⊢; exact Nat.le_trans g (by decide)) ?_
    refine h_nwL w (ds := (((([(enc ()), (enc (5 : Int)), (.tup [] : D), (enc (⟨a_edit_here.a, a_edit_here.b⟩ : (Tp2 (Tp2 Int Int) (Option (Tp2 Int Int))))), (enc (⟨a_edit_here.a, a_edit_here.b, a_edit_here.c, a_edit_here.c⟩ : (Tp4 (Tp2 Int Int) (Option (Tp2 Int Int)) (Tp2 Int Int) (Tp2 Int Int)))), (enc ([(enc a_edit_here.a), (enc a_edit_here.b), (enc a_edit_here.c)] : List D)), (enc ("edit" : Str)), (enc true), (.dic [] : D)] : List D) ++ ([(enc (⟨(⟨0, 1⟩ : (Tp2 Int Int)), a_edit_here.b, a_edit_here.c⟩ : (Tp3 (Tp2 Int Int) (Option (Tp2 Int Int)) (Tp2 Int Int)))), (enc (⟨(⟨(-1), 2⟩ : (Tp2 Int Int)), a_edit_here.b, a_edit_here.c⟩ : (Tp3 (Tp2 Int Int) (Option (Tp2 Int Int)) (Tp2 Int Int)))), (enc (⟨(⟨2, 2⟩ : (Tp2 Int Int)), a_edit_here.b, a_edit_here.c⟩ : (Tp3 (Tp2 Int Int) (Option (Tp2 Int Int)) (Tp2 Int Int)))), (enc (⟨1, a_edit_here.b, a_edit_here.c⟩ : (Tp3 Int (Option (Tp2 Int Int)) (Tp2 Int Int))))] : List D)) ++ ([(enc (⟨(⟨true, 1⟩ : (Tp2 Bool Int)), a_edit_here.b, a_edit_here.c⟩ : (Tp3 (Tp2 Bool Int) (Option (Tp2 Int Int)) (Tp2 Int Int)))), (enc (⟨(), a_edit_here.b, a_edit_here.c⟩ : (Tp3 Unit (Option (Tp2 Int Int)) (Tp2 Int Int)))), (enc (⟨a_edit_here.a, (⟨(-1), 1⟩ : (Tp2 Int Int)), (⟨1, 1⟩ : (Tp2 Int Int))⟩ : (Tp3 (Tp2 Int Int) (Tp2 Int Int) (Tp2 Int Int)))), (enc (⟨a_edit_here.a, (⟨2, 4⟩ : (Tp2 Int Int)), (⟨1, 1⟩ : (Tp2 Int Int))⟩ : (Tp3 (Tp2 Int Int) (Tp2 Int Int) (Tp2 Int Int))))] : List D))).map enc) (K := K) (RepL.cat hr165 hr169) (fun p170 B171 H172 s173 r174 => ?_) 
    replace m_state := m_state.step s173 nm0
    replace r6 := r6.mono s173.ex
    replace r8 := r8.mono s173.ex
    replace r10 := r10.mono s173.ex
    replace r28 := r28.mono s173.ex
    replace r111 := r111.mono s173.ex
    replace st := st.go s173 go0
    replace w := s173.ok
    replace r174 : Rep K B171 (.ref p170) (enc ((([(enc ()), (enc (5 : Int)), (.tup [] : D), (enc (⟨a_edit_here.a, a_edit_here.b⟩ : (Tp2 (Tp2 Int Int) (Option (Tp2 Int Int))))), (enc (⟨a_edit_here.a, a_edit_here.b, a_edit_here.c, a_edit_here.c⟩ : (Tp4 (Tp2 Int Int) (Option (Tp2 Int Int)) (Tp2 Int Int) (Tp2 Int Int)))), (enc ([(enc a_edit_here.a), (enc a_edit_here.b), (enc a_edit_here.c)] : List D)), (enc ("edit" : Str)), (enc true), (.dic [] : D)] : List D) ++ ([(enc (⟨(⟨0, 1⟩ : (Tp2 Int Int)), a_edit_here.b, a_edit_here.c⟩ : (Tp3 (Tp2 Int Int) (Option (Tp2 Int Int)) (Tp2 Int Int)))), (enc (⟨(⟨(-1), 2⟩ : (Tp2 Int Int)), a_edit_here.b, a_edit_here.c⟩ : (Tp3 (Tp2 Int Int) (Option (Tp2 Int Int)) (Tp2 Int Int)))), (enc (⟨(⟨2, 2⟩ : (Tp2 Int Int)), a_edit_here.b, a_edit_here.c⟩ : (Tp3 (Tp2 Int Int) (Option (Tp2 Int Int)) (Tp2 Int Int)))), (enc (⟨1, a_edit_here.b, a_edit_here.c⟩ : (Tp3 Int (Option (Tp2 Int Int)) (Tp2 Int Int))))] : List D)) ++ ([(enc (⟨(⟨true, 1⟩ : (Tp2 Bool Int)), a_edit_here.b, a_edit_here.c⟩ : (Tp3 (Tp2 Bool Int) (Option (Tp2 Int Int)) (Tp2 Int Int)))), (enc (⟨(), a_edit_here.b, a_edit_here.c⟩ : (Tp3 Unit (Option (Tp2 Int Int)) (Tp2 Int Int)))), (enc (⟨a_edit_here.a, (⟨(-1), 1⟩ : (Tp2 Int Int)), (⟨1, 1⟩ : (Tp2 Int Int))⟩ : (Tp3 (Tp2 Int Int) (Tp2 Int Int) (Tp2 Int Int)))), (enc (⟨a_edit_here.a, (⟨2, 4⟩ : (Tp2 Int Int)), (⟨1, 1⟩ : (Tp2 Int Int))⟩ : (Tp3 (Tp2 Int Int) (Tp2 Int Int) (Tp2 Int Int))))] : List D))) := r174
    refine h_set ?_
    refine h_op ?_
    refine h_var rfl ?_
    refine h_lst ?_
    refine h_cons ?_
    refine h_tup ?_
    refine h_cons ?_
    refine h_var rfl ?_
    refine h_cons ?_
    refine h_c ?_
    refine h_cons ?_
    refine h_tup ?_
    refine h_cons ?_
    refine h_c ?_
    refine h_cons ?_
    refine h_c ?_
    refine h_nil ?_
    refine h_newT w (K := K) (.cons (Rep.int _) (.cons (Rep.int _) .nil)) (fun p175 B176 H177 s178 r179 => ?_) (by show 2 ≤ sizeLine; decide)
    replace m_state := m_state.step s178 nm0
    replace r6 := r6.mono s178.ex
    replace r8 := r8.mono s178.ex
    replace r10 := r10.mono s178.ex
    replace r28 := r28.mono s178.ex
    replace r174 := r174.mono s178.ex
    replace st := st.go s178 go0
    replace w := s178.ok
    replace r179 : Rep K B176 (.ref p175) (enc (⟨1, 1⟩ : (Tp2 Int Int))) := r179
    refine h_nil ?_
    refine h_newT w (K := K) (.cons r6 (.cons (Rep.int _) (.cons r179 .nil))) (fun p180 B181 H182 s183 r184 => ?_) (by show 3 ≤ sizeLine; decide)
    replace m_state := m_state.step s183 nm0
    replace r6 := r6.mono s183.ex
    replace r8 := r8.mono s183.ex
    replace r10 := r10.mono s183.ex
    replace r28 := r28.mono s183.ex
    replace r174 := r174.mono s183.ex
    replace st := st.go s183 go0
    replace w := s183.ok
    replace r184 : Rep K B181 (.ref p180) (enc (⟨a_edit_here.a, 0, (⟨1, 1⟩ : (Tp2 Int Int))⟩ : (Tp3 (Tp2 Int Int) Int (Tp2 Int Int)))) := r184
    refine h_cons ?_
    refine h_tup ?_
    refine h_cons ?_
    refine h_var rfl ?_
    refine h_cons ?_
    refine h_c ?_
    refine h_cons ?_
    refine h_tup ?_
    refine h_cons ?_
    refine h_c ?_
    refine h_cons ?_
    refine h_c ?_
    refine h_nil ?_
    refine h_newT w (K := K) (.cons (Rep.int _) (.cons (Rep.int _) .nil)) (fun p185 B186 H187 s188 r189 => ?_) (by show 2 ≤ sizeLine; decide)
    replace m_state := m_state.step s188 nm0
    replace r6 := r6.mono s188.ex
    replace r8 := r8.mono s188.ex
    replace r10 := r10.mono s188.ex
    replace r28 := r28.mono s188.ex
    replace r174 := r174.mono s188.ex
    replace r184 := r184.mono s188.ex
    replace st := st.go s188 go0
    replace w := s188.ok
    replace r189 : Rep K B186 (.ref p185) (enc (⟨0, 1⟩ : (Tp2 Int Int))) := r189
    refine h_nil ?_
    refine h_newT w (K := K) (.cons r6 (.cons (Rep.bl _) (.cons r189 .nil))) (fun p190 B191 H192 s193 r194 => ?_) (by show 3 ≤ sizeLine; decide)
    replace m_state := m_state.step s193 nm0
    replace r6 := r6.mono s193.ex
    replace r8 := r8.mono s193.ex
    replace r10 := r10.mono s193.ex
    replace r28 := r28.mono s193.ex
    replace r174 := r174.mono s193.ex
    replace r184 := r184.mono s193.ex
    replace st := st.go s193 go0
    replace w := s193.ok
    replace r194 : Rep K B191 (.ref p190) (enc (⟨a_edit_here.a, false, (⟨0, 1⟩ : (Tp2 Int Int))⟩ : (Tp3 (Tp2 Int Int) Bool (Tp2 Int Int)))) := r194
    refine h_cons ?_
    refine h_tup ?_
    refine h_cons ?_
    refine h_var rfl ?_
    refine h_cons ?_
    refine h_c ?_
    refine h_cons ?_
    refine h_tup ?_
    refine h_cons ?_
    refine h_c ?_
    refine h_cons ?_
    refine h_c ?_
    refine h_nil ?_
    refine h_newT w (K := K) (.cons (Rep.int _) (.cons (Rep.int _) .nil)) (fun p195 B196 H197 s198 r199 => ?_) (by show 2 ≤ sizeLine; decide)
    replace m_state := m_state.step s198 nm0
    replace r6 := r6.mono s198.ex
    replace r8 := r8.mono s198.ex
    replace r10 := r10.mono s198.ex
    replace r28 := r28.mono s198.ex
    replace r174 := r174.mono s198.ex
    replace r184 := r184.mono s198.ex
    replace r194 := r194.mono s198.ex
    replace st := st.go s198 go0
    replace w := s198.ok
    replace r199 : Rep K B196 (.ref p195) (enc (⟨1, 1⟩ : (Tp2 Int Int))) := r199
    refine h_nil ?_
    refine h_newT w (K := K) (.cons r6 (.cons (Rep.str _) (.cons r199 .nil))) (fun p200 B201 H202 s203 r204 => ?_) (by show 3 ≤ sizeLine; decide)
    replace m_state := m_state.step s203 nm0
    replace r6 := r6.mono s203.ex
    replace r8 := r8.mono s203.ex
    replace r10 := r10.mono s203.ex
    replace r28 := r28.mono s203.ex
    replace r174 := r174.mono s203.ex
    replace r184 := r184.mono s203.ex
    replace r194 := r194.mono s203.ex
    replace st := st.go s203 go0
    replace w := s203.ok
    replace r204 : Rep K B201 (.ref p200) (enc (⟨a_edit_here.a, ("0" : Str), (⟨1, 1⟩ : (Tp2 Int Int))⟩ : (Tp3 (Tp2 Int Int) Str (Tp2 Int Int)))) := r204
    refine h_cons ?_
    refine h_tup ?_
    refine h_cons ?_
    refine h_var rfl ?_
    refine h_cons ?_
    refine h_var rfl ?_
    refine h_cons ?_
    refine h_tup ?_
    refine h_cons ?_
    refine h_un ?_
    refine h_c ?_
    refine h_U ?_
    refine h_cons ?_
    refine h_c ?_
    refine h_nil ?_
    refine h_newT w (K := K) (.cons (Rep.int _) (.cons (Rep.int _) .nil)) (fun p205 B206 H207 s208 r209 => ?_) (by show 2 ≤ sizeLine; decide)
    replace m_state := m_state.step s208 nm0
    replace r6 := r6.mono s208.ex
    replace r8 := r8.mono s208.ex
    replace r10 := r10.mono s208.ex
    replace r28 := r28.mono s208.ex
    replace r174 := r174.mono s208.ex
    replace r184 := r184.mono s208.ex
    replace r194 := r194.mono s208.ex
    replace r204 := r204.mono s208.ex
    replace st := st.go s208 go0
    replace w := s208.ok
    replace r209 : Rep K B206 (.ref p205) (enc (⟨(-1), 2⟩ : (Tp2 Int Int))) := r209
    refine h_nil ?_
    refine h_newT w (K := K) (.cons r6 (.cons r28 (.cons r209 .nil))) (fun p210 B211 H212 s213 r214 => ?_) (by show 3 ≤ sizeLine; decide)
    replace m_state := m_state.step s213 nm0
    replace r6 := r6.mono s213.ex
    replace r8 := r8.mono s213.ex
    replace r10 := r10.mono s213.ex
    replace r28 := r28.mono s213.ex
    replace r174 := r174.mono s213.ex
    replace r184 := r184.mono s213.ex
    replace r194 := r194.mono s213.ex
    replace r204 := r204.mono s213.ex
    replace st := st.go s213 go0
    replace w := s213.ok
    replace r214 : Rep K B211 (.ref p210) (enc (⟨a_edit_here.a, x25, (⟨(-1), 2⟩ : (Tp2 Int Int))⟩ : (Tp3 (Tp2 Int Int) D (Tp2 Int Int)))) := r214
    refine h_nil ?_
    refine h_newL w (ds := (([(enc (⟨a_edit_here.a, 0, (⟨1, 1⟩ : (Tp2 Int Int))⟩ : (Tp3 (Tp2 Int Int) Int (Tp2 Int Int)))), (enc (⟨a_edit_here.a, false, (⟨0, 1⟩ : (Tp2 Int Int))⟩ : (Tp3 (Tp2 Int Int) Bool (Tp2 Int Int)))), (enc (⟨a_edit_here.a, ("0" : Str), (⟨1, 1⟩ : (Tp2 Int Int))⟩ : (Tp3 (Tp2 Int Int) Str (Tp2 Int Int)))), (enc (⟨a_edit_here.a, x25, (⟨(-1), 2⟩ : (Tp2 Int Int))⟩ : (Tp3 (Tp2 Int Int) D (Tp2 Int Int))))] : List D)).map enc) (K := K) (.cons r184 (.cons r194 (.cons r204 (.cons r214 .nil)))) (fun p215 B216 H217 s218 r219 => ?_) (by show 4 ≤ sizeLine; decide)
    replace m_state := m_state.step s218 nm0
    replace r6 := r6.mono s218.ex
    replace r8 := r8.mono s218.ex
    replace r10 := r10.mono s218.ex
    replace r28 := r28.mono s218.ex
    replace r174 := r174.mono s218.ex
    replace st := st.go s218 go0
    replace w := s218.ok
    replace r219 : Rep K B216 (.ref p215) (enc ([(enc (⟨a_edit_here.a, 0, (⟨1, 1⟩ : (Tp2 Int Int))⟩ : (Tp3 (Tp2 Int Int) Int (Tp2 Int Int)))), (enc (⟨a_edit_here.a, false, (⟨0, 1⟩ : (Tp2 Int Int))⟩ : (Tp3 (Tp2 Int Int) Bool (Tp2 Int Int)))), (enc (⟨a_edit_here.a, ("0" : Str), (⟨1, 1⟩ : (Tp2 Int Int))⟩ : (Tp3 (Tp2 Int Int) Str (Tp2 Int Int)))), (enc (⟨a_edit_here.a, x25, (⟨(-1), 2⟩ : (Tp2 Int Int))⟩ : (Tp3 (Tp2 Int Int) D (Tp2 Int Int))))] : List D)) := r219
    obtain ⟨p220, xs221, hv, hs222, hr223⟩ := Rep.sq w r174
    cases hv
    obtain ⟨p224, xs225, hv, hs226, hr227⟩ := Rep.sq w r219
    cases hv
    obtain ⟨gd, P⟩ := P.guard
    refine h_cat hs222 hs226 (by have g := gd; simp only [hr223.length, hr227.length, List.length_map] at g ⊢; exact Nat.le_trans g (by decide)) ?_
    refine h_nwL w (ds := ((((([(enc ()), (enc (5 : Int)), (.tup [] : D), (enc (⟨a_edit_here.a, a_edit_here.b⟩ : (Tp2 (Tp2 Int Int) (Option (Tp2 Int Int))))), (enc (⟨a_edit_here.a, a_edit_here.b, a_edit_here.c, a_edit_here.c⟩ : (Tp4 (Tp2 Int Int) (Option (Tp2 Int Int)) (Tp2 Int Int) (Tp2 Int Int)))), (enc ([(enc a_edit_here.a), (enc a_edit_here.b), (enc a_edit_here.c)] : List D)), (enc ("edit" : Str)), (enc true), (.dic [] : D)] : List D) ++ ([(enc (⟨(⟨0, 1⟩ : (Tp2 Int Int)), a_edit_here.b, a_edit_here.c⟩ : (Tp3 (Tp2 Int Int) (Option (Tp2 Int Int)) (Tp2 Int Int)))), (enc (⟨(⟨(-1), 2⟩ : (Tp2 Int Int)), a_edit_here.b, a_edit_here.c⟩ : (Tp3 (Tp2 Int Int) (Option (Tp2 Int Int)) (Tp2 Int Int)))), (enc (⟨(⟨2, 2⟩ : (Tp2 Int Int)), a_edit_here.b, a_edit_here.c⟩ : (Tp3 (Tp2 Int Int) (Option (Tp2 Int Int)) (Tp2 Int Int)))), (enc (⟨1, a_edit_here.b, a_edit_here.c⟩ : (Tp3 Int (Option (Tp2 Int Int)) (Tp2 Int Int))))] : List D)) ++ ([(enc (⟨(⟨true, 1⟩ : (Tp2 Bool Int)), a_edit_here.b, a_edit_here.c⟩ : (Tp3 (Tp2 Bool Int) (Option (Tp2 Int Int)) (Tp2 Int Int)))), (enc (⟨(), a_edit_here.b, a_edit_here.c⟩ : (Tp3 Unit (Option (Tp2 Int Int)) (Tp2 Int Int)))), (enc (⟨a_edit_here.a, (⟨(-1), 1⟩ : (Tp2 Int Int)), (⟨1, 1⟩ : (Tp2 Int Int))⟩ : (Tp3 (Tp2 Int Int) (Tp2 Int Int) (Tp2 Int Int)))), (enc (⟨a_edit_here.a, (⟨2, 4⟩ : (Tp2 Int Int)), (⟨1, 1⟩ : (Tp2 Int Int))⟩ : (Tp3 (Tp2 Int Int) (Tp2 Int Int) (Tp2 Int Int))))] : List D)) ++ ([(enc (⟨a_edit_here.a, 0, (⟨1, 1⟩ : (Tp2 Int Int))⟩ : (Tp3 (Tp2 Int Int) Int (Tp2 Int Int)))), (enc (⟨a_edit_here.a, false, (⟨0, 1⟩ : (Tp2 Int Int))⟩ : (Tp3 (Tp2 Int Int) Bool (Tp2 Int Int)))), (enc (⟨a_edit_here.a, ("0" : Str), (⟨1, 1⟩ : (Tp2 Int Int))⟩ : (Tp3 (Tp2 Int Int) Str (Tp2 Int Int)))), (enc (⟨a_edit_here.a, x25, (⟨(-1), 2⟩ : (Tp2 Int Int))⟩ : (Tp3 (Tp2 Int Int) D (Tp2 Int Int))))] : List D))).map enc) (K := K) (RepL.cat hr223 hr227) (fun p228 B229 H230 s231 r232 => ?_) 
    replace m_state := m_state.step s231 nm0
    replace r6 := r6.mono s231.ex
    replace r8 := r8.mono s231.ex
    replace r10 := r10.mono s231.ex
    replace r28 := r28.mono s231.ex
    replace r174 := r174.mono s231.ex
    replace st := st.go s231 go0
    replace w := s231.ok
    replace r232 : Rep K B229 (.ref p228) (enc (((([(enc ()), (enc (5 : Int)), (.tup [] : D), (enc (⟨a_edit_here.a, a_edit_here.b⟩ : (Tp2 (Tp2 Int Int) (Option (Tp2 Int Int))))), (enc (⟨a_edit_here.a, a_edit_here.b, a_edit_here.c, a_edit_here.c⟩ : (Tp4 (Tp2 Int Int) (Option (Tp2 Int Int)) (Tp2 Int Int) (Tp2 Int Int)))), (enc ([(enc a_edit_here.a), (enc a_edit_here.b), (enc a_edit_here.c)] : List D)), (enc ("edit" : Str)), (enc true), (.dic [] : D)] : List D) ++ ([(enc (⟨(⟨0, 1⟩ : (Tp2 Int Int)), a_edit_here.b, a_edit_here.c⟩ : (Tp3 (Tp2 Int Int) (Option (Tp2 Int Int)) (Tp2 Int Int)))), (enc (⟨(⟨(-1), 2⟩ : (Tp2 Int Int)), a_edit_here.b, a_edit_here.c⟩ : (Tp3 (Tp2 Int Int) (Option (Tp2 Int Int)) (Tp2 Int Int)))), (enc (⟨(⟨2, 2⟩ : (Tp2 Int Int)), a_edit_here.b, a_edit_here.c⟩ : (Tp3 (Tp2 Int Int) (Option (Tp2 Int Int)) (Tp2 Int Int)))), (enc (⟨1, a_edit_here.b, a_edit_here.c⟩ : (Tp3 Int (Option (Tp2 Int Int)) (Tp2 Int Int))))] : List D)) ++ ([(enc (⟨(⟨true, 1⟩ : (Tp2 Bool Int)), a_edit_here.b, a_edit_here.c⟩ : (Tp3 (Tp2 Bool Int) (Option (Tp2 Int Int)) (Tp2 Int Int)))), (enc (⟨(), a_edit_here.b, a_edit_here.c⟩ : (Tp3 Unit (Option (Tp2 Int Int)) (Tp2 Int Int)))), (enc (⟨a_edit_here.a, (⟨(-1), 1⟩ : (Tp2 Int Int)), (⟨1, 1⟩ : (Tp2 Int Int))⟩ : (Tp3 (Tp2 Int Int) (Tp2 Int Int) (Tp2 Int Int)))), (enc (⟨a_edit_here.a, (⟨2, 4⟩ : (Tp2 Int Int)), (⟨1, 1⟩ : (Tp2 Int Int))⟩ : (Tp3 (Tp2 Int Int) (Tp2 Int Int) (Tp2 Int Int))))] : List D)) ++ ([(enc (⟨a_edit_here.a, 0, (⟨1, 1⟩ : (Tp2 Int Int))⟩ : (Tp3 (Tp2 Int Int) Int (Tp2 Int Int)))), (enc (⟨a_edit_here.a, false, (⟨0, 1⟩ : (Tp2 Int Int))⟩ : (Tp3 (Tp2 Int Int) Bool (Tp2 Int Int)))), (enc (⟨a_edit_here.a, ("0" : Str), (⟨1, 1⟩ : (Tp2 Int Int))⟩ : (Tp3 (Tp2 Int Int) Str (Tp2 Int Int)))), (enc (⟨a_edit_here.a, x25, (⟨(-1), 2⟩ : (Tp2 Int Int))⟩ : (Tp3 (Tp2 Int Int) D (Tp2 Int Int))))] : List D))) := r232
    refine h_set ?_
    refine h_op ?_
    refine h_var rfl ?_
    refine h_lst ?_
    refine h_cons ?_
    refine h_tup ?_
    refine h_cons ?_
    refine h_var rfl ?_
    refine h_cons ?_
    refine h_var rfl ?_
    refine h_cons ?_
    refine h_c ?_
    refine h_nil ?_
    refine h_newT w (K := K) (.cons r6 (.cons r28 (.cons Rep.non .nil))) (fun p233 B234 H235 s236 r237 => ?_) (by show 3 ≤ sizeLine; decide)
    replace m_state := m_state.step s236 nm0
    replace r6 := r6.mono s236.ex
    replace r8 := r8.mono s236.ex
    replace r10 := r10.mono s236.ex
    replace r28 := r28.mono s236.ex
    replace r232 := r232.mono s236.ex
    replace st := st.go s236 go0
    replace w := s236.ok
    replace r237 : Rep K B234 (.ref p233) (enc (⟨a_edit_here.a, x25, ()⟩ : (Tp3 (Tp2 Int Int) D Unit))) := r237
    refine h_cons ?_
    refine h_tup ?_
    refine h_cons ?_
    refine h_var rfl ?_
    refine h_cons ?_
    refine h_var rfl ?_
    refine h_cons ?_
    refine h_tup ?_
    refine h_cons ?_
    refine h_c ?_
    refine h_cons ?_
    refine h_c ?_
    refine h_nil ?_
    refine h_newT w (K := K) (.cons (Rep.int _) (.cons (Rep.int _) .nil)) (fun p238 B239 H240 s241 r242 => ?_) (by show 2 ≤ sizeLine; decide)
    replace m_state := m_state.step s241 nm0
    replace r6 := r6.mono s241.ex
    replace r8 := r8.mono s241.ex
    replace r10 := r10.mono s241.ex
    replace r28 := r28.mono s241.ex
    replace r232 := r232.mono s241.ex
    replace r237 := r237.mono s241.ex
    replace st := st.go s241 go0
    replace w := s241.ok
    replace r242 : Rep K B239 (.ref p238) (enc (⟨0, 2⟩ : (Tp2 Int Int))) := r242
    refine h_nil ?_
    refine h_newT w (K := K) (.cons r6 (.cons r28 (.cons r242 .nil))) (fun p243 B244 H245 s246 r247 => ?_) (by show 3 ≤ sizeLine; decide)
    replace m_state := m_state.step s246 nm0
    replace r6 := r6.mono s246.ex
    replace r8 := r8.mono s246.ex
    replace r10 := r10.mono s246.ex
    replace r28 := r28.mono s246.ex
    replace r232 := r232.mono s246.ex
    replace r237 := r237.mono s246.ex
    replace st := st.go s246 go0
    replace w := s246.ok
    replace r247 : Rep K B244 (.ref p243) (enc (⟨a_edit_here.a, x25, (⟨0, 2⟩ : (Tp2 Int Int))⟩ : (Tp3 (Tp2 Int Int) D (Tp2 Int Int)))) := r247
    refine h_cons ?_
    refine h_tup ?_
    refine h_cons ?_
    refine h_var rfl ?_
    refine h_cons ?_
    refine h_var rfl ?_
    refine h_cons ?_
    refine h_c ?_
    refine h_nil ?_
    refine h_newT w (K := K) (.cons r6 (.cons r28 (.cons (Rep.int _) .nil))) (fun p248 B249 H250 s251 r252 => ?_) (by show 3 ≤ sizeLine; decide)
    replace m_state := m_state.step s251 nm0
    replace r6 := r6.mono s251.ex
    replace r8 := r8.mono s251.ex
    replace r10 := r10.mono s251.ex
    replace r28 := r28.mono s251.ex
    replace r232 := r232.mono s251.ex
    replace r237 := r237.mono s251.ex
    replace r247 := r247.mono s251.ex
    replace st := st.go s251 go0
    replace w := s251.ok
    replace r252 : Rep K B249 (.ref p248) (enc (⟨a_edit_here.a, x25, 1⟩ : (Tp3 (Tp2 Int Int) D Int))) := r252
    refine h_cons ?_
    refine h_tup ?_
    refine h_cons ?_
    refine h_var rfl ?_
    refine h_cons ?_
    refine h_c ?_
    refine h_cons ?_
    refine h_tup ?_
    refine h_cons ?_
    refine h_c ?_
    refine h_cons ?_
    refine h_c ?_
    refine h_nil ?_
    refine h_newT w (K := K) (.cons (Rep.int _) (.cons (Rep.int _) .nil)) (fun p253 B254 H255 s256 r257 => ?_) (by show 2 ≤ sizeLine; decide)
    replace m_state := m_state.step s256 nm0
    replace r6 := r6.mono s256.ex
    replace r8 := r8.mono s256.ex
    replace r10 := r10.mono s256.ex
    replace r28 := r28.mono s256.ex
    replace r232 := r232.mono s256.ex
    replace r237 := r237.mono s256.ex
    replace r247 := r247.mono s256.ex
    replace r252 := r252.mono s256.ex
    replace st := st.go s256 go0
    replace w := s256.ok
    replace r257 : Rep K B254 (.ref p253) (enc (⟨1, 1⟩ : (Tp2 Int Int))) := r257
    refine h_nil ?_
    refine h_newT w (K := K) (.cons r6 (.cons Rep.non (.cons r257 .nil))) (fun p258 B259 H260 s261 r262 => ?_) (by show 3 ≤ sizeLine; decide)
    replace m_state := m_state.step s261 nm0
    replace r6 := r6.mono s261.ex
    replace r8 := r8.mono s261.ex
    replace r10 := r10.mono s261.ex
    replace r28 := r28.mono s261.ex
    replace r232 := r232.mono s261.ex
    replace r237 := r237.mono s261.ex
    replace r247 := r247.mono s261.ex
    replace r252 := r252.mono s261.ex
    replace st := st.go s261 go0
    replace w := s261.ok
    replace r262 : Rep K B259 (.ref p258) (enc (⟨a_edit_here.a, (), (⟨1, 1⟩ : (Tp2 Int Int))⟩ : (Tp3 (Tp2 Int Int) Unit (Tp2 Int Int)))) := r262
    refine h_cons ?_
    refine h_tup ?_
    refine h_cons ?_
    refine h_var rfl ?_
    refine h_cons ?_
    refine h_c ?_
    refine h_cons ?_
    refine h_c ?_
    refine h_nil ?_
    refine h_newT w (K := K) (.cons r6 (.cons Rep.non (.cons Rep.non .nil))) (fun p263 B264 H265 s266 r267 => ?_) (by show 3 ≤ sizeLine; decide)
    replace m_state := m_state.step s266 nm0
    replace r6 := r6.mono s266.ex
    replace r8 := r8.mono s266.ex
    replace r10 := r10.mono s266.ex
    replace r28 := r28.mono s266.ex
    replace r232 := r232.mono s266.ex
    replace r237 := r237.mono s266.ex
    replace r247 := r247.mono s266.ex
    replace r252 := r252.mono s266.ex
    replace r262 := r262.mono s266.ex
    replace st := st.go s266 go0
    replace w := s266.ok
    replace r267 : Rep K B264 (.ref p263) (enc (⟨a_edit_here.a, (), ()⟩ : (Tp3 (Tp2 Int Int) Unit Unit))) := r267
    refine h_nil ?_
    refine h_newL w (ds := (([(enc (⟨a_edit_here.a, x25, ()⟩ : (Tp3 (Tp2 Int Int) D Unit))), (enc (⟨a_edit_here.a, x25, (⟨0, 2⟩ : (Tp2 Int Int))⟩ : (Tp3 (Tp2 Int Int) D (Tp2 Int Int)))), (enc (⟨a_edit_here.a, x25, 1⟩ : (Tp3 (Tp2 Int Int) D Int))), (enc (⟨a_edit_here.a, (), (⟨1, 1⟩ : (Tp2 Int Int))⟩ : (Tp3 (Tp2 Int Int) Unit (Tp2 Int Int)))), (enc (⟨a_edit_here.a, (), ()⟩ : (Tp3 (Tp2 Int Int) Unit Unit)))] : List D)).map enc) (K := K) (.cons r237 (.cons r247 (.cons r252 (.cons r262 (.cons r267 .nil))))) (fun p268 B269 H270 s271 r272 => ?_) (by show 5 ≤ sizeLine; decide)
    replace m_state := m_state.step s271 nm0
    replace r6 := r6.mono s271.ex
    replace r8 := r8.mono s271.ex
    replace r10 := r10.mono s271.ex
    replace r28 := r28.mono s271.ex
    replace r232 := r232.mono s271.ex
    replace st := st.go s271 go0
    replace w := s271.ok
    replace r272 : Rep K B269 (.ref p268) (enc ([(enc (⟨a_edit_here.a, x25, ()⟩ : (Tp3 (Tp2 Int Int) D Unit))), (enc (⟨a_edit_here.a, x25, (⟨0, 2⟩ : (Tp2 Int Int))⟩ : (Tp3 (Tp2 Int Int) D (Tp2 Int Int)))), (enc (⟨a_edit_here.a, x25, 1⟩ : (Tp3 (Tp2 Int Int) D Int))), (enc (⟨a_edit_here.a, (), (⟨1, 1⟩ : (Tp2 Int Int))⟩ : (Tp3 (Tp2 Int Int) Unit (Tp2 Int Int)))), (enc (⟨a_edit_here.a, (), ()⟩ : (Tp3 (Tp2 Int Int) Unit Unit)))] : List D)) := r272
    obtain ⟨p273, xs274, hv, hs275, hr276⟩ := Rep.sq w r232
    cases hv
    obtain ⟨p277, xs278, hv, hs279, hr280⟩ := Rep.sq w r272
    cases hv
    obtain ⟨gd, P⟩ := P.guard
    refine h_cat hs275 hs279 (by have g := gd; simp only [hr276.length, hr280.length, List.length_map] at g ⊢; exact Nat.le_trans g (by decide)) ?_
    refine h_nwL w (ds := (((((([(enc ()), (enc (5 : Int)), (.tup [] : D), (enc (⟨a_edit_here.a, a_edit_here.b⟩ : (Tp2 (Tp2 Int Int) (Option (Tp2 Int Int))))), (enc (⟨a_edit_here.a, a_edit_here.b, a_edit_here.c, a_edit_here.c⟩ : (Tp4 (Tp2 Int Int) (Option (Tp2 Int Int)) (Tp2 Int Int) (Tp2 Int Int)))), (enc ([(enc a_edit_here.a), (enc a_edit_here.b), (enc a_edit_here.c)] : List D)), (enc ("edit" : Str)), (enc true), (.dic [] : D)] : List D) ++ ([(enc (⟨(⟨0, 1⟩ : (Tp2 Int Int)), a_edit_here.b, a_edit_here.c⟩ : (Tp3 (Tp2 Int Int) (Option (Tp2 Int Int)) (Tp2 Int Int)))), (enc (⟨(⟨(-1), 2⟩ : (Tp2 Int Int)), a_edit_here.b, a_edit_here.c⟩ : (Tp3 (Tp2 Int Int) (Option (Tp2 Int Int)) (Tp2 Int Int)))), (enc (⟨(⟨2, 2⟩ : (Tp2 Int Int)), a_edit_here.b, a_edit_here.c⟩ : (Tp3 (Tp2 Int Int) (Option (Tp2 Int Int)) (Tp2 Int Int)))), (enc (⟨1, a_edit_here.b, a_edit_here.c⟩ : (Tp3 Int (Option (Tp2 Int Int)) (Tp2 Int Int))))] : List D)) ++ ([(enc (⟨(⟨true, 1⟩ : (Tp2 Bool Int)), a_edit_here.b, a_edit_here.c⟩ : (Tp3 (Tp2 Bool Int) (Option (Tp2 Int Int)) (Tp2 Int Int)))), (enc (⟨(), a_edit_here.b, a_edit_here.c⟩ : (Tp3 Unit (Option (Tp2 Int Int)) (Tp2 Int Int)))), (enc (⟨a_edit_here.a, (⟨(-1), 1⟩ : (Tp2 Int Int)), (⟨1, 1⟩ : (Tp2 Int Int))⟩ : (Tp3 (Tp2 Int Int) (Tp2 Int Int) (Tp2 Int Int)))), (enc (⟨a_edit_here.a, (⟨2, 4⟩ : (Tp2 Int Int)), (⟨1, 1⟩ : (Tp2 Int Int))⟩ : (Tp3 (Tp2 Int Int) (Tp2 Int Int) (Tp2 Int Int))))] : List D)) ++ ([(enc (⟨a_edit_here.a, 0, (⟨1, 1⟩ : (Tp2 Int Int))⟩ : (Tp3 (Tp2 Int Int) Int (Tp2 Int Int)))), (enc (⟨a_edit_here.a, false, (⟨0, 1⟩ : (Tp2 Int Int))⟩ : (Tp3 (Tp2 Int Int) Bool (Tp2 Int Int)))), (enc (⟨a_edit_here.a, ("0" : Str), (⟨1, 1⟩ : (Tp2 Int Int))⟩ : (Tp3 (Tp2 Int Int) Str (Tp2 Int Int)))), (enc (⟨a_edit_here.a, x25, (⟨(-1), 2⟩ : (Tp2 Int Int))⟩ : (Tp3 (Tp2 Int Int) D (Tp2 Int Int))))] : List D)) ++ ([(enc (⟨a_edit_here.a, x25, ()⟩ : (Tp3 (Tp2 Int Int) D Unit))), (enc (⟨a_edit_here.a, x25, (⟨0, 2⟩ : (Tp2 Int Int))⟩ : (Tp3 (Tp2 Int Int) D (Tp2 Int Int)))), (enc (⟨a_edit_here.a, x25, 1⟩ : (Tp3 (Tp2 Int Int) D Int))), (enc (⟨a_edit_here.a, (), (⟨1, 1⟩ : (Tp2 Int Int))⟩ : (Tp3 (Tp2 Int Int) Unit (Tp2 Int Int)))), (enc (⟨a_edit_here.a, (), ()⟩ : (Tp3 (Tp2 Int Int) Unit Unit)))] : List D))).map enc) (K := K) (RepL.cat hr276 hr280) (fun p281 B282 H283 s284 r285 => ?_) 
    replace m_state := m_state.step s284 nm0
    replace r6 := r6.mono s284.ex
    replace r8 := r8.mono s284.ex
    replace r10 := r10.mono s284.ex
    replace r28 := r28.mono s284.ex
    replace r232 := r232.mono s284.ex
    replace st := st.go s284 go0
    replace w := s284.ok
    replace r285 : Rep K B282 (.ref p281) (enc ((((([(enc ()), (enc (5 : Int)), (.tup [] : D), (enc (⟨a_edit_here.a, a_edit_here.b⟩ : (Tp2 (Tp2 Int Int) (Option (Tp2 Int Int))))), (enc (⟨a_edit_here.a, a_edit_here.b, a_edit_here.c, a_edit_here.c⟩ : (Tp4 (Tp2 Int Int) (Option (Tp2 Int Int)) (Tp2 Int Int) (Tp2 Int Int)))), (enc ([(enc a_edit_here.a), (enc a_edit_here.b), (enc a_edit_here.c)] : List D)), (enc ("edit" : Str)), (enc true), (.dic [] : D)] : List D) ++ ([(enc (⟨(⟨0, 1⟩ : (Tp2 Int Int)), a_edit_here.b, a_edit_here.c⟩ : (Tp3 (Tp2 Int Int) (Option (Tp2 Int Int)) (Tp2 Int Int)))), (enc (⟨(⟨(-1), 2⟩ : (Tp2 Int Int)), a_edit_here.b, a_edit_here.c⟩ : (Tp3 (Tp2 Int Int) (Option (Tp2 Int Int)) (Tp2 Int Int)))), (enc (⟨(⟨2, 2⟩ : (Tp2 Int Int)), a_edit_here.b, a_edit_here.c⟩ : (Tp3 (Tp2 Int Int) (Option (Tp2 Int Int)) (Tp2 Int Int)))), (enc (⟨1, a_edit_here.b, a_edit_here.c⟩ : (Tp3 Int (Option (Tp2 Int Int)) (Tp2 Int Int))))] : List D)) ++ ([(enc (⟨(⟨true, 1⟩ : (Tp2 Bool Int)), a_edit_here.b, a_edit_here.c⟩ : (Tp3 (Tp2 Bool Int) (Option (Tp2 Int Int)) (Tp2 Int Int)))), (enc (⟨(), a_edit_here.b, a_edit_here.c⟩ : (Tp3 Unit (Option (Tp2 Int Int)) (Tp2 Int Int)))), (enc (⟨a_edit_here.a, (⟨(-1), 1⟩ : (Tp2 Int Int)), (⟨1, 1⟩ : (Tp2 Int Int))⟩ : (Tp3 (Tp2 Int Int) (Tp2 Int Int) (Tp2 Int Int)))), (enc (⟨a_edit_here.a, (⟨2, 4⟩ : (Tp2 Int Int)), (⟨1, 1⟩ : (Tp2 Int Int))⟩ : (Tp3 (Tp2 Int Int) (Tp2 Int Int) (Tp2 Int Int))))] : List D)) ++ ([(enc (⟨a_edit_here.a, 0, (⟨1, 1⟩ : (Tp2 Int Int))⟩ : (Tp3 (Tp2 Int Int) Int (Tp2 Int Int)))), (enc (⟨a_edit_here.a, false, (⟨0, 1⟩ : (Tp2 Int Int))⟩ : (Tp3 (Tp2 Int Int) Bool (Tp2 Int Int)))), (enc (⟨a_edit_here.a, ("0" : Str), (⟨1, 1⟩ : (Tp2 Int Int))⟩ : (Tp3 (Tp2 Int Int) Str (Tp2 Int Int)))), (enc (⟨a_edit_here.a, x25, (⟨(-1), 2⟩ : (Tp2 Int Int))⟩ : (Tp3 (Tp2 Int Int) D (Tp2 Int Int))))] : List D)) ++ ([(enc (⟨a_edit_here.a, x25, ()⟩ : (Tp3 (Tp2 Int Int) D Unit))), (enc (⟨a_edit_here.a, x25, (⟨0, 2⟩ : (Tp2 Int Int))⟩ : (Tp3 (Tp2 Int Int) D (Tp2 Int Int)))), (enc (⟨a_edit_here.a, x25, 1⟩ : (Tp3 (Tp2 Int Int) D Int))), (enc (⟨a_edit_here.a, (), (⟨1, 1⟩ : (Tp2 Int Int))⟩ : (Tp3 (Tp2 Int Int) Unit (Tp2 Int Int)))), (enc (⟨a_edit_here.a, (), ()⟩ : (Tp3 (Tp2 Int Int) Unit Unit)))] : List D))) := r285
    refine h_set ?_
    refine h_op ?_
    refine h_var rfl ?_
    refine h_lst ?_
    refine h_cons ?_
    refine h_tup ?_
    refine h_cons ?_
    refine h_var rfl ?_
    refine h_cons ?_
    refine h_var rfl ?_
    refine h_cons ?_
    refine h_tup ?_
    refine h_cons ?_
    refine h_c ?_
    refine h_cons ?_
    refine h_c ?_
    refine h_nil ?_
    refine h_newT w (K := K) (.cons (Rep.int _) (.cons (Rep.int _) .nil)) (fun p286 B287 H288 s289 r290 => ?_) (by show 2 ≤ sizeLine; decide)
    replace m_state := m_state.step s289 nm0
    replace r6 := r6.mono s289.ex
    replace r8 := r8.mono s289.ex
    replace r10 := r10.mono s289.ex
    replace r28 := r28.mono s289.ex
    replace r285 := r285.mono s289.ex
    replace st := st.go s289 go0
    replace w := s289.ok
    replace r290 : Rep K B287 (.ref p286) (enc (⟨1, 0⟩ : (Tp2 Int Int))) := r290
    refine h_nil ?_
    refine h_newT w (K := K) (.cons r6 (.cons r28 (.cons r290 .nil))) (fun p291 B292 H293 s294 r295 => ?_) (by show 3 ≤ sizeLine; decide)
    replace m_state := m_state.step s294 nm0
    replace r6 := r6.mono s294.ex
    replace r8 := r8.mono s294.ex
    replace r10 := r10.mono s294.ex
    replace r28 := r28.mono s294.ex
    replace r285 := r285.mono s294.ex
    replace st := st.go s294 go0
    replace w := s294.ok
    replace r295 : Rep K B292 (.ref p291) (enc (⟨a_edit_here.a, x25, (⟨1, 0⟩ : (Tp2 Int Int))⟩ : (Tp3 (Tp2 Int Int) D (Tp2 Int Int)))) := r295
    refine h_cons ?_
    refine h_tup ?_
    refine h_cons ?_
    refine h_var rfl ?_
    refine h_cons ?_
    refine h_tup ?_
    refine h_cons ?_
    refine h_c ?_
    refine h_cons ?_
    refine h_un ?_
    refine h_c ?_
    refine h_U ?_
    refine h_nil ?_
    refine h_newT w (K := K) (.cons (Rep.int _) (.cons (Rep.int _) .nil)) (fun p296 B297 H298 s299 r300 => ?_) (by show 2 ≤ sizeLine; decide)
    replace m_state := m_state.step s299 nm0
    replace r6 := r6.mono s299.ex
    replace r8 := r8.mono s299.ex
    replace r10 := r10.mono s299.ex
    replace r28 := r28.mono s299.ex
    replace r285 := r285.mono s299.ex
    replace r295 := r295.mono s299.ex
    replace st := st.go s299 go0
    replace w := s299.ok
    replace r300 : Rep K B297 (.ref p296) (enc (⟨1, (-1)⟩ : (Tp2 Int Int))) := r300
    refine h_cons ?_
    refine h_tup ?_
    refine h_cons ?_
    refine h_c ?_
    refine h_cons ?_
    refine h_c ?_
    refine h_nil ?_
    refine h_newT w (K := K) (.cons (Rep.int _) (.cons (Rep.int _) .nil)) (fun p301 B302 H303 s304 r305 => ?_) (by show 2 ≤ sizeLine; decide)
    replace m_state := m_state.step s304 nm0
    replace r6 := r6.mono s304.ex
    replace r8 := r8.mono s304.ex
    replace r10 := r10.mono s304.ex
    replace r28 := r28.mono s304.ex
    replace r285 := r285.mono s304.ex
    replace r295 := r295.mono s304.ex
    replace r300 := r300.mono s304.ex
    replace st := st.go s304 go0
    replace w := s304.ok
    replace r305 : Rep K B302 (.ref p301) (enc (⟨1, 1⟩ : (Tp2 Int Int))) := r305
    refine h_nil ?_
    refine h_newT w (K := K) (.cons r6 (.cons r300 (.cons r305 .nil))) (fun p306 B307 H308 s309 r310 => ?_) (by show 3 ≤ sizeLine; decide)
    replace m_state := m_state.step s309 nm0
    replace r6 := r6.mono s309.ex
    replace r8 := r8.mono s309.ex
    replace r10 := r10.mono s309.ex
    replace r28 := r28.mono s309.ex
    replace r285 := r285.mono s309.ex
    replace r295 := r295.mono s309.ex
    replace st := st.go s309 go0
    replace w := s309.ok
    replace r310 : Rep K B307 (.ref p306) (enc (⟨a_edit_here.a, (⟨1, (-1)⟩ : (Tp2 Int Int)), (⟨1, 1⟩ : (Tp2 Int Int))⟩ : (Tp3 (Tp2 Int Int) (Tp2 Int Int) (Tp2 Int Int)))) := r310
    refine h_cons ?_
    refine h_tup ?_
    refine h_cons ?_
    refine h_var rfl ?_
    refine h_cons ?_
    refine h_c ?_
    refine h_cons ?_
    refine h_c ?_
    refine h_nil ?_
    refine h_newT w (K := K) (.cons r6 (.cons Rep.non (.cons (Rep.int _) .nil))) (fun p311 B312 H313 s314 r315 => ?_) (by show 3 ≤ sizeLine; decide)
    replace m_state := m_state.step s314 nm0
    replace r6 := r6.mono s314.ex
    replace r8 := r8.mono s314.ex
    replace r10 := r10.mono s314.ex
    replace r28 := r28.mono s314.ex
    replace r285 := r285.mono s314.ex
    replace r295 := r295.mono s314.ex
    replace r310 := r310.mono s314.ex
    replace st := st.go s314 go0
    replace w := s314.ok
    replace r315 : Rep K B312 (.ref p311) (enc (⟨a_edit_here.a, (), 0⟩ : (Tp3 (Tp2 Int Int) Unit Int))) := r315
    refine h_cons ?_
    refine h_tup ?_
    refine h_cons ?_
    refine h_cb ?_
    refine h_cons ?_
    refine h_var rfl ?_
    refine h_nil ?_
    obtain ⟨p316, xs317, rfl, hs318, hr319⟩ := Rep.st w r6
    refine h_listT hs318 ?_
    refine h_nwL w (ds := (([a_edit_here.a.a, a_edit_here.a.b] : List Int)).map enc) (K := K) hr319 (fun p320 B321 H322 s323 r324 => ?_) 
    replace m_state := m_state.step s323 nm0
    replace r6 := r6.mono s323.ex
    replace r8 := r8.mono s323.ex
    replace r10 := r10.mono s323.ex
    replace r28 := r28.mono s323.ex
    replace r285 := r285.mono s323.ex
    replace r295 := r295.mono s323.ex
    replace r310 := r310.mono s323.ex
    replace r315 := r315.mono s323.ex
    replace st := st.go s323 go0
    replace w := s323.ok
    replace r324 : Rep K B321 (.ref p320) (enc ([a_edit_here.a.a, a_edit_here.a.b] : List Int)) := r324
    refine h_cons ?_
    refine h_var rfl ?_
    refine h_cons ?_
    refine h_tup ?_
    refine h_cons ?_
    refine h_c ?_
    refine h_cons ?_
    refine h_c ?_
    refine h_nil ?_
    refine h_newT w (K := K) (.cons (Rep.int _) (.cons (Rep.int _) .nil)) (fun p325 B326 H327 s328 r329 => ?_) (by show 2 ≤ sizeLine; decide)
    replace m_state := m_state.step s328 nm0
    replace r6 := r6.mono s328.ex
    replace r8 := r8.mono s328.ex
    replace r10 := r10.mono s328.ex
    replace r28 := r28.mono s328.ex
    replace r285 := r285.mono s328.ex
    replace r295 := r295.mono s328.ex
    replace r310 := r310.mono s328.ex
    replace r315 := r315.mono s328.ex
    replace r324 := r324.mono s328.ex
    replace st := st.go s328 go0
    replace w := s328.ok
    replace r329 : Rep K B326 (.ref p325) (enc (⟨1, 1⟩ : (Tp2 Int Int))) := r329
    refine h_nil ?_
    refine h_newT w (K := K) (.cons r324 (.cons r28 (.cons r329 .nil))) (fun p330 B331 H332 s333 r334 => ?_) (by show 3 ≤ sizeLine; decide)
    replace m_state := m_state.step s333 nm0
    replace r6 := r6.mono s333.ex
    replace r8 := r8.mono s333.ex
    replace r10 := r10.mono s333.ex
    replace r28 := r28.mono s333.ex
    replace r285 := r285.mono s333.ex
    replace r295 := r295.mono s333.ex
    replace r310 := r310.mono s333.ex
    replace r315 := r315.mono s333.ex
    replace st := st.go s333 go0
    replace w := s333.ok
    replace r334 : Rep K B331 (.ref p330) (enc (⟨([a_edit_here.a.a, a_edit_here.a.b] : List Int), x25, (⟨1, 1⟩ : (Tp2 Int Int))⟩ : (Tp3 (List Int) D (Tp2 Int Int)))) := r334
    refine h_nil ?_
    refine h_newL w (ds := (([(enc (⟨a_edit_here.a, x25, (⟨1, 0⟩ : (Tp2 Int Int))⟩ : (Tp3 (Tp2 Int Int) D (Tp2 Int Int)))), (enc (⟨a_edit_here.a, (⟨1, (-1)⟩ : (Tp2 Int Int)), (⟨1, 1⟩ : (Tp2 Int Int))⟩ : (Tp3 (Tp2 Int Int) (Tp2 Int Int) (Tp2 Int Int)))), (enc (⟨a_edit_here.a, (), 0⟩ : (Tp3 (Tp2 Int Int) Unit Int))), (enc (⟨([a_edit_here.a.a, a_edit_here.a.b] : List Int), x25, (⟨1, 1⟩ : (Tp2 Int Int))⟩ : (Tp3 (List Int) D (Tp2 Int Int))))] : List D)).map enc) (K := K) (.cons r295 (.cons r310 (.cons r315 (.cons r334 .nil)))) (fun p335 B336 H337 s338 r339 => ?_) (by show 4 ≤ sizeLine; decide)
    replace m_state := m_state.step s338 nm0
    replace r6 := r6.mono s338.ex
    replace r8 := r8.mono s338.ex
    replace r10 := r10.mono s338.ex
    replace r28 := r28.mono s338.ex
    replace r285 := r285.mono s338.ex
    replace st := st.go s338 go0
    replace w := s338.ok
    replace r339 : Rep K B336 (.ref p335) (enc ([(enc (⟨a_edit_here.a, x25, (⟨1, 0⟩ : (Tp2 Int Int))⟩ : (Tp3 (Tp2 Int Int) D (Tp2 Int Int)))), (enc (⟨a_edit_here.a, (⟨1, (-1)⟩ : (Tp2 Int Int)), (⟨1, 1⟩ : (Tp2 Int Int))⟩ : (Tp3 (Tp2 Int Int) (Tp2 Int Int) (Tp2 Int Int)))), (enc (⟨a_edit_here.a, (), 0⟩ : (Tp3 (Tp2 Int Int) Unit Int))), (enc (⟨([a_edit_here.a.a, a_edit_here.a.b] : List Int), x25, (⟨1, 1⟩ : (Tp2 Int Int))⟩ : (Tp3 (List Int) D (Tp2 Int Int))))] : List D)) := r339
    obtain ⟨p340, xs341, hv, hs342, hr343⟩ := Rep.sq w r285
    cases hv
    obtain ⟨p344, xs345, hv, hs346, hr347⟩ := Rep.sq w r339
    cases hv
    obtain ⟨gd, P⟩ := P.guard
    refine h_cat hs342 hs346 (by have g := gd; simp only [hr343.length, hr347.length, List.length_map] at g ⊢; exact Nat.le_trans g (by decide)) ?_
    refine h_nwL w (ds := ((((((([(enc ()), (enc (5 : Int)), (.tup [] : D), (enc (⟨a_edit_here.a, a_edit_here.b⟩ : (Tp2 (Tp2 Int Int) (Option (Tp2 Int Int))))), (enc (⟨a_edit_here.a, a_edit_here.b, a_edit_here.c, a_edit_here.c⟩ : (Tp4 (Tp2 Int Int) (Option (Tp2 Int Int)) (Tp2 Int Int) (Tp2 Int Int)))), (enc ([(enc a_edit_here.a), (enc a_edit_here.b), (enc a_edit_here.c)] : List D)), (enc ("edit" : Str)), (enc true), (.dic [] : D)] : List D) ++ ([(enc (⟨(⟨0, 1⟩ : (Tp2 Int Int)), a_edit_here.b, a_edit_here.c⟩ : (Tp3 (Tp2 Int Int) (Option (Tp2 Int Int)) (Tp2 Int Int)))), (enc (⟨(⟨(-1), 2⟩ : (Tp2 Int Int)), a_edit_here.b, a_edit_here.c⟩ : (Tp3 (Tp2 Int Int) (Option (Tp2 Int Int)) (Tp2 Int Int)))), (enc (⟨(⟨2, 2⟩ : (Tp2 Int Int)), a_edit_here.b, a_edit_here.c⟩ : (Tp3 (Tp2 Int Int) (Option (Tp2 Int Int)) (Tp2 Int Int)))), (enc (⟨1, a_edit_here.b, a_edit_here.c⟩ : (Tp3 Int (Option (Tp2 Int Int)) (Tp2 Int Int))))] : List D)) ++ ([(enc (⟨(⟨true, 1⟩ : (Tp2 Bool Int)), a_edit_here.b, a_edit_here.c⟩ : (Tp3 (Tp2 Bool Int) (Option (Tp2 Int Int)) (Tp2 Int Int)))), (enc (⟨(), a_edit_here.b, a_edit_here.c⟩ : (Tp3 Unit (Option (Tp2 Int Int)) (Tp2 Int Int)))), (enc (⟨a_edit_here.a, (⟨(-1), 1⟩ : (Tp2 Int Int)), (⟨1, 1⟩ : (Tp2 Int Int))⟩ : (Tp3 (Tp2 Int Int) (Tp2 Int Int) (Tp2 Int Int)))), (enc (⟨a_edit_here.a, (⟨2, 4⟩ : (Tp2 Int Int)), (⟨1, 1⟩ : (Tp2 Int Int))⟩ : (Tp3 (Tp2 Int Int) (Tp2 Int Int) (Tp2 Int Int))))] : List D)) ++ ([(enc (⟨a_edit_here.a, 0, (⟨1, 1⟩ : (Tp2 Int Int))⟩ : (Tp3 (Tp2 Int Int) Int (Tp2 Int Int)))), (enc (⟨a_edit_here.a, false, (⟨0, 1⟩ : (Tp2 Int Int))⟩ : (Tp3 (Tp2 Int Int) Bool (Tp2 Int Int)))), (enc (⟨a_edit_here.a, ("0" : Str), (⟨1, 1⟩ : (Tp2 Int Int))⟩ : (Tp3 (Tp2 Int Int) Str (Tp2 Int Int)))), (enc (⟨a_edit_here.a, x25, (⟨(-1), 2⟩ : (Tp2 Int Int))⟩ : (Tp3 (Tp2 Int Int) D (Tp2 Int Int))))] : List D)) ++ ([(enc (⟨a_edit_here.a, x25, ()⟩ : (Tp3 (Tp2 Int Int) D Unit))), (enc (⟨a_edit_here.a, x25, (⟨0, 2⟩ : (Tp2 Int Int))⟩ : (Tp3 (Tp2 Int Int) D (Tp2 Int Int)))), (enc (⟨a_edit_here.a, x25, 1⟩ : (Tp3 (Tp2 Int Int) D Int))), (enc (⟨a_edit_here.a, (), (⟨1, 1⟩ : (Tp2 Int Int))⟩ : (Tp3 (Tp2 Int Int) Unit (Tp2 Int Int)))), (enc (⟨a_edit_here.a, (), ()⟩ : (Tp3 (Tp2 Int Int) Unit Unit)))] : List D)) ++ ([(enc (⟨a_edit_here.a, x25, (⟨1, 0⟩ : (Tp2 Int Int))⟩ : (Tp3 (Tp2 Int Int) D (Tp2 Int Int)))), (enc (⟨a_edit_here.a, (⟨1, (-1)⟩ : (Tp2 Int Int)), (⟨1, 1⟩ : (Tp2 Int Int))⟩ : (Tp3 (Tp2 Int Int) (Tp2 Int Int) (Tp2 Int Int)))), (enc (⟨a_edit_here.a, (), 0⟩ : (Tp3 (Tp2 Int Int) Unit Int))), (enc (⟨([a_edit_here.a.a, a_edit_here.a.b] : List Int), x25, (⟨1, 1⟩ : (Tp2 Int Int))⟩ : (Tp3 (List Int) D (Tp2 Int Int))))] : List D))).map enc) (K := K) (RepL.cat hr343 hr347) (fun p348 B349 H350 s351 r352 => ?_) 
    replace m_state := m_state.step s351 nm0
    replace r6 := r6.mono s351.ex
    replace r8 := r8.mono s351.ex
    replace r10 := r10.mono s351.ex
    replace r28 := r28.mono s351.ex
    replace r285 := r285.mono s351.ex
    replace st := st.go s351 go0
    replace w := s351.ok
    replace r352 : Rep K B349 (.ref p348) (enc (((((([(enc ()), (enc (5 : Int)), (.tup [] : D), (enc (⟨a_edit_here.a, a_edit_here.b⟩ : (Tp2 (Tp2 Int Int) (Option (Tp2 Int Int))))), (enc (⟨a_edit_here.a, a_edit_here.b, a_edit_here.c, a_edit_here.c⟩ : (Tp4 (Tp2 Int Int) (Option (Tp2 Int Int)) (Tp2 Int Int) (Tp2 Int Int)))), (enc ([(enc a_edit_here.a), (enc a_edit_here.b), (enc a_edit_here.c)] : List D)), (enc ("edit" : Str)), (enc true), (.dic [] : D)] : List D) ++ ([(enc (⟨(⟨0, 1⟩ : (Tp2 Int Int)), a_edit_here.b, a_edit_here.c⟩ : (Tp3 (Tp2 Int Int) (Option (Tp2 Int Int)) (Tp2 Int Int)))), (enc (⟨(⟨(-1), 2⟩ : (Tp2 Int Int)), a_edit_here.b, a_edit_here.c⟩ : (Tp3 (Tp2 Int Int) (Option (Tp2 Int Int)) (Tp2 Int Int)))), (enc (⟨(⟨2, 2⟩ : (Tp2 Int Int)), a_edit_here.b, a_edit_here.c⟩ : (Tp3 (Tp2 Int Int) (Option (Tp2 Int Int)) (Tp2 Int Int)))), (enc (⟨1, a_edit_here.b, a_edit_here.c⟩ : (Tp3 Int (Option (Tp2 Int Int)) (Tp2 Int Int))))] : List D)) ++ ([(enc (⟨(⟨true, 1⟩ : (Tp2 Bool Int)), a_edit_here.b, a_edit_here.c⟩ : (Tp3 (Tp2 Bool Int) (Option (Tp2 Int Int)) (Tp2 Int Int)))), (enc (⟨(), a_edit_here.b, a_edit_here.c⟩ : (Tp3 Unit (Option (Tp2 Int Int)) (Tp2 Int Int)))), (enc (⟨a_edit_here.a, (⟨(-1), 1⟩ : (Tp2 Int Int)), (⟨1, 1⟩ : (Tp2 Int Int))⟩ : (Tp3 (Tp2 Int Int) (Tp2 Int Int) (Tp2 Int Int)))), (enc (⟨a_edit_here.a, (⟨2, 4⟩ : (Tp2 Int Int)), (⟨1, 1⟩ : (Tp2 Int Int))⟩ : (Tp3 (Tp2 Int Int) (Tp2 Int Int) (Tp2 Int Int))))] : List D)) ++ ([(enc (⟨a_edit_here.a, 0, (⟨1, 1⟩ : (Tp2 Int Int))⟩ : (Tp3 (Tp2 Int Int) Int (Tp2 Int Int)))), (enc (⟨a_edit_here.a, false, (⟨0, 1⟩ : (Tp2 Int Int))⟩ : (Tp3 (Tp2 Int Int) Bool (Tp2 Int Int)))), (enc (⟨a_edit_here.a, ("0" : Str), (⟨1, 1⟩ : (Tp2 Int Int))⟩ : (Tp3 (Tp2 Int Int) Str (Tp2 Int Int)))), (enc (⟨a_edit_here.a, x25, (⟨(-1), 2⟩ : (Tp2 Int Int))⟩ : (Tp3 (Tp2 Int Int) D (Tp2 Int Int))))] : List D)) ++ ([(enc (⟨a_edit_here.a, x25, ()⟩ : (Tp3 (Tp2 Int Int) D Unit))), (enc (⟨a_edit_here.a, x25, (⟨0, 2⟩ : (Tp2 Int Int))⟩ : (Tp3 (Tp2 Int Int) D (Tp2 Int Int)))), (enc (⟨a_edit_here.a, x25, 1⟩ : (Tp3 (Tp2 Int Int) D Int))), (enc (⟨a_edit_here.a, (), (⟨1, 1⟩ : (Tp2 Int Int))⟩ : (Tp3 (Tp2 Int Int) Unit (Tp2 Int Int)))), (enc (⟨a_edit_here.a, (), ()⟩ : (Tp3 (Tp2 Int Int) Unit Unit)))] : List D)) ++ ([(enc (⟨a_edit_here.a, x25, (⟨1, 0⟩ : (Tp2 Int Int))⟩ : (Tp3 (Tp2 Int Int) D (Tp2 Int Int)))), (enc (⟨a_edit_here.a, (⟨1, (-1)⟩ : (Tp2 Int Int)), (⟨1, 1⟩ : (Tp2 Int Int))⟩ : (Tp3 (Tp2 Int Int) (Tp2 Int Int) (Tp2 Int Int)))), (enc (⟨a_edit_here.a, (), 0⟩ : (Tp3 (Tp2 Int Int) Unit Int))), (enc (⟨([a_edit_here.a.a, a_edit_here.a.b] : List Int), x25, (⟨1, 1⟩ : (Tp2 Int Int))⟩ : (Tp3 (List Int) D (Tp2 Int Int))))] : List D))) := r352
    refine h_ret ?_
    refine h_op ?_
    refine h_var rfl ?_
    refine h_call ?_
    refine h_cons ?_
    refine h_var rfl ?_
    refine h_cons ?_
    refine h_cb ?_
    refine h_cons ?_
    refine h_var rfl ?_
    refine h_nil ?_
    obtain ⟨p353, xs354, hv, hs355, hr356⟩ := Rep.sq w r352
    cases hv
    refine h_len hs355 hr356 ?_
    refine h_nil ?_
    refine ⟨B349, p_state, a_state, ((((((([(enc ()), (enc (5 : Int)), (.tup [] : D), (enc (⟨a_edit_here.a, a_edit_here.b⟩ : (Tp2 (Tp2 Int Int) (Option (Tp2 Int Int))))), (enc (⟨a_edit_here.a, a_edit_here.b, a_edit_here.c, a_edit_here.c⟩ : (Tp4 (Tp2 Int Int) (Option (Tp2 Int Int)) (Tp2 Int Int) (Tp2 Int Int)))), (enc ([(enc a_edit_here.a), (enc a_edit_here.b), (enc a_edit_here.c)] : List D)), (enc ("edit" : Str)), (enc true), (.dic [] : D)] : List D) ++ ([(enc (⟨(⟨0, 1⟩ : (Tp2 Int Int)), a_edit_here.b, a_edit_here.c⟩ : (Tp3 (Tp2 Int Int) (Option (Tp2 Int Int)) (Tp2 Int Int)))), (enc (⟨(⟨(-1), 2⟩ : (Tp2 Int Int)), a_edit_here.b, a_edit_here.c⟩ : (Tp3 (Tp2 Int Int) (Option (Tp2 Int Int)) (Tp2 Int Int)))), (enc (⟨(⟨2, 2⟩ : (Tp2 Int Int)), a_edit_here.b, a_edit_here.c⟩ : (Tp3 (Tp2 Int Int) (Option (Tp2 Int Int)) (Tp2 Int Int)))), (enc (⟨1, a_edit_here.b, a_edit_here.c⟩ : (Tp3 Int (Option (Tp2 Int Int)) (Tp2 Int Int))))] : List D)) ++ ([(enc (⟨(⟨true, 1⟩ : (Tp2 Bool Int)), a_edit_here.b, a_edit_here.c⟩ : (Tp3 (Tp2 Bool Int) (Option (Tp2 Int Int)) (Tp2 Int Int)))), (enc (⟨(), a_edit_here.b, a_edit_here.c⟩ : (Tp3 Unit (Option (Tp2 Int Int)) (Tp2 Int Int)))), (enc (⟨a_edit_here.a, (⟨(-1), 1⟩ : (Tp2 Int Int)), (⟨1, 1⟩ : (Tp2 Int Int))⟩ : (Tp3 (Tp2 Int Int) (Tp2 Int Int) (Tp2 Int Int)))), (enc (⟨a_edit_here.a, (⟨2, 4⟩ : (Tp2 Int Int)), (⟨1, 1⟩ : (Tp2 Int Int))⟩ : (Tp3 (Tp2 Int Int) (Tp2 Int Int) (Tp2 Int Int))))] : List D)) ++ ([(enc (⟨a_edit_here.a, 0, (⟨1, 1⟩ : (Tp2 Int Int))⟩ : (Tp3 (Tp2 Int Int) Int (Tp2 Int Int)))), (enc (⟨a_edit_here.a, false, (⟨0, 1⟩ : (Tp2 Int Int))⟩ : (Tp3 (Tp2 Int Int) Bool (Tp2 Int Int)))), (enc (⟨a_edit_here.a, ("0" : Str), (⟨1, 1⟩ : (Tp2 Int Int))⟩ : (Tp3 (Tp2 Int Int) Str (Tp2 Int Int)))), (enc (⟨a_edit_here.a, x25, (⟨(-1), 2⟩ : (Tp2 Int Int))⟩ : (Tp3 (Tp2 Int Int) D (Tp2 Int Int))))] : List D)) ++ ([(enc (⟨a_edit_here.a, x25, ()⟩ : (Tp3 (Tp2 Int Int) D Unit))), (enc (⟨a_edit_here.a, x25, (⟨0, 2⟩ : (Tp2 Int Int))⟩ : (Tp3 (Tp2 Int Int) D (Tp2 Int Int)))), (enc (⟨a_edit_here.a, x25, 1⟩ : (Tp3 (Tp2 Int Int) D Int))), (enc (⟨a_edit_here.a, (), (⟨1, 1⟩ : (Tp2 Int Int))⟩ : (Tp3 (Tp2 Int Int) Unit (Tp2 Int Int)))), (enc (⟨a_edit_here.a, (), ()⟩ : (Tp3 (Tp2 Int Int) Unit Unit)))] : List D)) ++ ([(enc (⟨a_edit_here.a, x25, (⟨1, 0⟩ : (Tp2 Int Int))⟩ : (Tp3 (Tp2 Int Int) D (Tp2 Int Int)))), (enc (⟨a_edit_here.a, (⟨1, (-1)⟩ : (Tp2 Int Int)), (⟨1, 1⟩ : (Tp2 Int Int))⟩ : (Tp3 (Tp2 Int Int) (Tp2 Int Int) (Tp2 Int Int)))), (enc (⟨a_edit_here.a, (), 0⟩ : (Tp3 (Tp2 Int Int) Unit Int))), (enc (⟨([a_edit_here.a.a, a_edit_here.a.b] : List Int), x25, (⟨1, 1⟩ : (Tp2 Int Int))⟩ : (Tp3 (List Int) D (Tp2 Int Int))))] : List D)).length : Int), w, rfl, m_state, (P.bind).mono (fun x357 P => ?_) (fun _ z => z)⟩
    refine fun v361 B358 H359 s360 m_state r362 => ?_
    replace r6 := r6.mono s360.ex
    replace r8 := r8.mono s360.ex
    replace r10 := r10.mono s360.ex
    replace r28 := r28.mono s360.ex
    replace r352 := r352.mono s360.ex
    replace st := st.go s360 (go1 (.inl (by simp)))
    replace w := s360.ok
    cases r362
    obtain ⟨p363, xs364, hv, hs365, hr366⟩ := Rep.sq w r352
    cases hv
    obtain ⟨x367, hx368, P⟩ := P.ix
    obtain ⟨u369, hu, r370⟩ := RepL.atE hr366 hx368
    refine h_ixL hs365 hu ?_
    exact P.ok _ _ _ st m_state r370
theorem ok__law_bad_edits {f : Addr} {fd : FuncData}  (F : Fun K "_law_bad_edits" "_law_bad_edits" s__law_bad_edits f fd) {f__law_digit : Addr} {d__law_digit : FuncData} (g__law_digit : mg "_law_digit" = some (.ref f__law_digit)) (k__law_digit : PySem.W.keepIn K (.ref f__law_digit) = true) (b__law_digit : L2.Binds K d__law_digit ["_law_state", "_law_base"] []) (G__law_digit : FnOk Pr wo K mg base CX0 1 f__law_digit d__law_digit ["_law_state", "_law_base"] (sp__law_digit K)) {f__law_odd_edit : Addr} {d__law_odd_edit : FuncData} (g__law_odd_edit : mg "_law_odd_edit" = some (.ref f__law_odd_edit)) (k__law_odd_edit : PySem.W.keepIn K (.ref f__law_odd_edit) = true) (b__law_odd_edit : L2.Binds K d__law_odd_edit ["_law_state", "_law_edit_here"] []) (G__law_odd_edit : FnOk Pr wo K mg base CX0 2 f__law_odd_edit d__law_odd_edit ["_law_state", "_law_edit_here"] (sp__law_odd_edit K)) (bI_len : mg "len" = none) (bI_tuple : mg "tuple" = none) (bI_dict : mg "dict" = none) (bI_range : mg "range" = none) : FnOk Pr wo K mg base CX0 3 f fd ["_law_state", "_law_edits_here"] (sp__law_bad_edits K) := by
  refine F.ok sc__law_bad_edits (fun vs H Q E h => ?_) (fun cdv A outer s H0 vs Q E hr h => ?_)
  · obtain ⟨_, _, _, _, _, _, rfl, _⟩ := h; rfl
  · obtain ⟨B0, p_state, a_state, v_edits_here, a_edits_here, w, rfl, m_state, r_edits_here, P⟩ := h
    have w0 := w
    have hu := hu_of hr
    have hu64 := hu64_of hr
    have hu65 := hu65_of hr
    have hr1 : Room 1 _ := hr.mono (by decide)
    have hr2 : Room 2 _ := hr.mono (by decide)
    refine ⟨_, (pss_cons (ps_set (i := 2) sc__law_bad_edits.nd rfl (by first | exact Or.inl rfl | exact Or.inr rfl) (pe_call G__law_digit hr1 rfl g__law_digit k__law_digit b__law_digit .nil pass0 (pa_cons (pv 0) (pa_cons pe_int pa_nil))))
      (pss_cons (ps_set (i := 3) sc__law_bad_edits.nd rfl (by first | exact Or.inl rfl | exact Or.inr rfl) (pe_call G__law_digit hr1 rfl g__law_digit k__law_digit b__law_digit .nil pass0 (pa_cons (pv 0) (pa_cons (pe_op op_add (pe_callB (r := rLenY K) cr_len (by rfl) bI_len PySem.boot_len (pa_cons (pv 1) pa_nil)) pe_int) pa_nil))))
      (pss_cons (ps_set (i := 4) sc__law_bad_edits.nd rfl (by first | exact Or.inl rfl | exact Or.inr rfl) (pe_call G__law_odd_edit hr2 rfl g__law_odd_edit k__law_odd_edit b__law_odd_edit .nil pass0 (pa_cons (pv 0) (pa_cons (pe_ix (r := rIxL K) ix_list (pe_op (r := rCatQ K) op_catQ (pv 1) (pe_lst (pa_cons (pe_tup (pa_cons (pe_tup (pa_cons pe_int (pa_cons pe_int pa_nil))) (pa_cons (pe_tup (pa_cons pe_int (pa_cons pe_int pa_nil))) (pa_cons (pe_tup (pa_cons pe_int (pa_cons pe_int pa_nil))) pa_nil)))) pa_nil))) (pv 3) (fun _ _ => rfl)) pa_nil))))
      (pss_cons (ps_if (pt_cmpR op_eq (pv 2) pe_int (nomark _)) (pss_cons (ps_set (i := 5) sc__law_bad_edits.nd rfl (by first | exact Or.inl rfl | exact Or.inr rfl) (pe_lst (pa_cons pe_non (pa_cons pe_int (pa_cons pe_bl (pa_cons pe_str (pa_cons pe_str (pa_cons (pe_callTy (r := rTupY K) cr_tuple (by rfl) bI_tuple Y.boot_tuple (pa_cons (pv 1) pa_nil)) (pa_cons pe_dnewK (pa_cons (pe_tup (pa_cons pe_int (pa_cons pe_int pa_nil))) (pa_cons (pe_callTy (r := rDictP K) (cr_dict rfl) (by rfl) bI_dict Y.boot_dict (pa_cons (pe_lc (own := [("_law_k", 6)]) rfl sc__law_bad_edits.nd (pi_range1 (by rfl) bI_range (pa_cons pe_int pa_nil)) (blkOk_by (N := ["_law_state", "_law_edits_here", "_law_way", "_law_at", "_law_odd", "_law_some", "_law_k"]) (sc := defScope s__law_bad_edits) (by decide +kernel)) (fun _ _ _ _ _ => (pg_name (i := 6) sc__law_bad_edits.nd rfl (by first | exact Or.inl rfl | exact Or.inr rfl))) (fun _ _ _ _ _ => pts_nil) (fun _ _ _ _ _ => (pe_tup (pa_cons (pv 6) (pa_cons (pv 6) pa_nil))))) pa_nil)) pa_nil)))))))))))
      (pss_one (ps_ret (pe_ix (r := rIxL K) ix_list (pv 5) (pe_call G__law_digit hr1 rfl g__law_digit k__law_digit b__law_digit .nil pass0 (pa_cons (pv 0) (pa_cons pe_int pa_nil))) (fun _ _ => rfl))))) pss_nil)
      (pss_cons (ps_if (pt_cmpR op_eq (pv 2) pe_int (nomark _)) (pss_one (ps_ret (pe_op (r := rCatQ K) op_catQ (pe_op (r := rCatQ K) op_catQ (pe_slice (r := rSlQ K) sl_Q (pv 1) po_none (po_some (pv 3))) (pe_lst (pa_cons (pv 4) pa_nil))) (pe_slice (r := rSlQ K) sl_Q (pv 1) (po_some (pv 3)) po_none)))) pss_nil)
      (pss_one (ps_ret (pe_op (r := rCatQ K) op_catQ (pe_op (r := rCatQ K) op_catQ (pe_slice (r := rSlQ K) sl_Q (pv 1) po_none (po_some (pv 3))) (pe_lst (pa_cons (pv 4) pa_nil))) (pe_slice (r := rSlQ K) sl_Q (pv 1) (po_some (pe_op op_add (pv 3) pe_int)) po_none))))))))), ?_⟩
    unfold l_bad_edits at P
    have st := Stp.refl (W := [p_state]) w
    refine h_set ?_
    refine h_call ?_
    refine h_cons ?_
    refine h_var rfl ?_
    refine h_cons ?_
    refine h_c ?_
    refine h_nil ?_
    refine ⟨B0, p_state, a_state, 3, w, rfl, m_state, (P.bind).mono (fun x1 P => ?_) (fun _ z => z)⟩
    refine fun v5 B2 H3 s4 m_state r6 => ?_
    replace st := st.go s4 (go1 (.inl (by simp)))
    replace w := s4.ok
    cases r6
    refine h_set ?_
    refine h_call ?_
    refine h_cons ?_
    refine h_var rfl ?_
    refine h_cons ?_
    refine h_op ?_
    refine h_cb ?_
    refine h_cons ?_
    refine h_var rfl ?_
    refine h_nil ?_
    obtain ⟨p7, xs8, rfl, hs9, hr10⟩ := Rep.sq w (r_edits_here.mono st.ex)
    refine h_len hs9 hr10 ?_
    refine h_c ?_
    refine h_I0 ?_
    refine h_nil ?_
    refine ⟨B2, p_state, x1.2, ((a_edits_here.length : Int) + 1), w, rfl, m_state, (P.bind).mono (fun x11 P => ?_) (fun _ z => z)⟩
    refine fun v15 B12 H13 s14 m_state r16 => ?_
    replace st := st.go s14 (go1 (.inl (by simp)))
    replace w := s14.ok
    cases r16
    refine h_set ?_
    refine h_call ?_
    refine h_cons ?_
    refine h_var rfl ?_
    refine h_cons ?_
    refine h_op ?_
    refine h_op ?_
    refine h_var rfl ?_
    refine h_lst ?_
    refine h_cons ?_
    refine h_tup ?_
    refine h_cons ?_
    refine h_tup ?_
    refine h_cons ?_
    refine h_c ?_
    refine h_cons ?_
    refine h_c ?_
    refine h_nil ?_
    refine h_newT w (K := K) (.cons (Rep.int _) (.cons (Rep.int _) .nil)) (fun p17 B18 H19 s20 r21 => ?_) (by show 2 ≤ sizeLine; decide)
    replace m_state := m_state.step s20 nm0
    replace st := st.go s20 go0
    replace w := s20.ok
    replace r21 : Rep K B18 (.ref p17) (enc (⟨1, 1⟩ : (Tp2 Int Int))) := r21
    refine h_cons ?_
    refine h_tup ?_
    refine h_cons ?_
    refine h_c ?_
    refine h_cons ?_
    refine h_c ?_
    refine h_nil ?_
    refine h_newT w (K := K) (.cons (Rep.int _) (.cons (Rep.int _) .nil)) (fun p22 B23 H24 s25 r26 => ?_) (by show 2 ≤ sizeLine; decide)
    replace m_state := m_state.step s25 nm0
    replace r21 := r21.mono s25.ex
    replace st := st.go s25 go0
    replace w := s25.ok
    replace r26 : Rep K B23 (.ref p22) (enc (⟨0, 1⟩ : (Tp2 Int Int))) := r26
    refine h_cons ?_
    refine h_tup ?_
    refine h_cons ?_
    refine h_c ?_
    refine h_cons ?_
    refine h_c ?_
    refine h_nil ?_
    refine h_newT w (K := K) (.cons (Rep.int _) (.cons (Rep.int _) .nil)) (fun p27 B28 H29 s30 r31 => ?_) (by show 2 ≤ sizeLine; decide)
    replace m_state := m_state.step s30 nm0
    replace r21 := r21.mono s30.ex
    replace r26 := r26.mono s30.ex
    replace st := st.go s30 go0
    replace w := s30.ok
    replace r31 : Rep K B28 (.ref p27) (enc (⟨1, 1⟩ : (Tp2 Int Int))) := r31
    refine h_nil ?_
    refine h_newT w (K := K) (.cons r21 (.cons r26 (.cons r31 .nil))) (fun p32 B33 H34 s35 r36 => ?_) (by show 3 ≤ sizeLine; decide)
    replace m_state := m_state.step s35 nm0
    replace st := st.go s35 go0
    replace w := s35.ok
    replace r36 : Rep K B33 (.ref p32) (enc (⟨(⟨1, 1⟩ : (Tp2 Int Int)), (⟨0, 1⟩ : (Tp2 Int Int)), (⟨1, 1⟩ : (Tp2 Int Int))⟩ : (Tp3 (Tp2 Int Int) (Tp2 Int Int) (Tp2 Int Int)))) := r36
    refine h_nil ?_
    refine h_newL w (ds := (([(⟨(⟨(⟨1, 1⟩ : (Tp2 Int Int)), (⟨0, 1⟩ : (Tp2 Int Int)), (⟨1, 1⟩ : (Tp2 Int Int))⟩ : (Tp3 (Tp2 Int Int) (Tp2 Int Int) (Tp2 Int Int))).a, (some ((⟨(⟨1, 1⟩ : (Tp2 Int Int)), (⟨0, 1⟩ : (Tp2 Int Int)), (⟨1, 1⟩ : (Tp2 Int Int))⟩ : (Tp3 (Tp2 Int Int) (Tp2 Int Int) (Tp2 Int Int))).b)), (⟨(⟨1, 1⟩ : (Tp2 Int Int)), (⟨0, 1⟩ : (Tp2 Int Int)), (⟨1, 1⟩ : (Tp2 Int Int))⟩ : (Tp3 (Tp2 Int Int) (Tp2 Int Int) (Tp2 Int Int))).c⟩ : (Tp3 (Tp2 Int Int) (Option (Tp2 Int Int)) (Tp2 Int Int)))] : List (Tp3 (Tp2 Int Int) (Option (Tp2 Int Int)) (Tp2 Int Int)))).map enc) (K := K) (.cons r36 .nil) (fun p37 B38 H39 s40 r41 => ?_) (by show 1 ≤ sizeLine; decide)
    replace m_state := m_state.step s40 nm0
    replace st := st.go s40 go0
    replace w := s40.ok
    replace r41 : Rep K B38 (.ref p37) (enc ([(⟨(⟨(⟨1, 1⟩ : (Tp2 Int Int)), (⟨0, 1⟩ : (Tp2 Int Int)), (⟨1, 1⟩ : (Tp2 Int Int))⟩ : (Tp3 (Tp2 Int Int) (Tp2 Int Int) (Tp2 Int Int))).a, (some ((⟨(⟨1, 1⟩ : (Tp2 Int Int)), (⟨0, 1⟩ : (Tp2 Int Int)), (⟨1, 1⟩ : (Tp2 Int Int))⟩ : (Tp3 (Tp2 Int Int) (Tp2 Int Int) (Tp2 Int Int))).b)), (⟨(⟨1, 1⟩ : (Tp2 Int Int)), (⟨0, 1⟩ : (Tp2 Int Int)), (⟨1, 1⟩ : (Tp2 Int Int))⟩ : (Tp3 (Tp2 Int Int) (Tp2 Int Int) (Tp2 Int Int))).c⟩ : (Tp3 (Tp2 Int Int) (Option (Tp2 Int Int)) (Tp2 Int Int)))] : List (Tp3 (Tp2 Int Int) (Option (Tp2 Int Int)) (Tp2 Int Int)))) := r41
    obtain ⟨p42, xs43, hv, hs44, hr45⟩ := Rep.sq w (r_edits_here.mono st.ex)
    cases hv
    obtain ⟨p46, xs47, hv, hs48, hr49⟩ := Rep.sq w r41
    cases hv
    obtain ⟨gd, P⟩ := P.guard
    refine h_cat hs44 hs48 (by have g := gd; simp only [hr45.length, hr49.length, List.length_map] at g ⊢; exact Nat.le_trans g (by decide)) ?_
    refine h_nwL w (ds := ((a_edits_here ++ ([(⟨(⟨(⟨1, 1⟩ : (Tp2 Int Int)), (⟨0, 1⟩ : (Tp2 Int Int)), (⟨1, 1⟩ : (Tp2 Int Int))⟩ : (Tp3 (Tp2 Int Int) (Tp2 Int Int) (Tp2 Int Int))).a, (some ((⟨(⟨1, 1⟩ : (Tp2 Int Int)), (⟨0, 1⟩ : (Tp2 Int Int)), (⟨1, 1⟩ : (Tp2 Int Int))⟩ : (Tp3 (Tp2 Int Int) (Tp2 Int Int) (Tp2 Int Int))).b)), (⟨(⟨1, 1⟩ : (Tp2 Int Int)), (⟨0, 1⟩ : (Tp2 Int Int)), (⟨1, 1⟩ : (Tp2 Int Int))⟩ : (Tp3 (Tp2 Int Int) (Tp2 Int Int) (Tp2 Int Int))).c⟩ : (Tp3 (Tp2 Int Int) (Option (Tp2 Int Int)) (Tp2 Int Int)))] : List (Tp3 (Tp2 Int Int) (Option (Tp2 Int Int)) (Tp2 Int Int))))).map enc) (K := K) (RepL.cat hr45 hr49) (fun p50 B51 H52 s53 r54 => ?_) 
    replace m_state := m_state.step s53 nm0
    replace st := st.go s53 go0
    replace w := s53.ok
    replace r54 : Rep K B51 (.ref p50) (enc (a_edits_here ++ ([(⟨(⟨(⟨1, 1⟩ : (Tp2 Int Int)), (⟨0, 1⟩ : (Tp2 Int Int)), (⟨1, 1⟩ : (Tp2 Int Int))⟩ : (Tp3 (Tp2 Int Int) (Tp2 Int Int) (Tp2 Int Int))).a, (some ((⟨(⟨1, 1⟩ : (Tp2 Int Int)), (⟨0, 1⟩ : (Tp2 Int Int)), (⟨1, 1⟩ : (Tp2 Int Int))⟩ : (Tp3 (Tp2 Int Int) (Tp2 Int Int) (Tp2 Int Int))).b)), (⟨(⟨1, 1⟩ : (Tp2 Int Int)), (⟨0, 1⟩ : (Tp2 Int Int)), (⟨1, 1⟩ : (Tp2 Int Int))⟩ : (Tp3 (Tp2 Int Int) (Tp2 Int Int) (Tp2 Int Int))).c⟩ : (Tp3 (Tp2 Int Int) (Option (Tp2 Int Int)) (Tp2 Int Int)))] : List (Tp3 (Tp2 Int Int) (Option (Tp2 Int Int)) (Tp2 Int Int))))) := r54
    refine h_var rfl ?_
    obtain ⟨p55, xs56, hv, hs57, hr58⟩ := Rep.sq w r54
    cases hv
    obtain ⟨x59, hx60, P⟩ := P.ix
    obtain ⟨u61, hu, r62⟩ := RepL.atE hr58 hx60
    refine h_ixL hs57 hu ?_
    refine h_nil ?_
    refine ⟨B51, p_state, x11.2, u61, x59, w, rfl, m_state, r62, (P.bind).mono (fun x63 P => ?_) (fun _ z => z)⟩
    refine fun v67 B64 H65 s66 m_state r68 => ?_
    replace r62 := r62.mono s66.ex
    replace st := st.go s66 (go1 (.inl (by simp)))
    replace w := s66.ok
    refine h_seq <| h_if ?_
    refine h_test ?_
    refine h_op ?_
    refine h_var rfl ?_
    refine h_c ?_
    refine h_eqI ?_
    refine h_bl ?_
    refine h_ite (fun c1 => ?_) (fun c1 => ?_)
    · replace P := P.iteT c1
      refine h_set ?_
      refine h_lst ?_
      refine h_cons ?_
      refine h_c ?_
      refine h_cons ?_
      refine h_c ?_
      refine h_cons ?_
      refine h_c ?_
      refine h_cons ?_
      refine h_c ?_
      refine h_cons ?_
      refine h_c ?_
      refine h_cons ?_
      refine h_cb ?_
      refine h_cons ?_
      refine h_var rfl ?_
      refine h_nil ?_
      obtain ⟨p69, xs70, hv, hs71, hr72⟩ := Rep.sq w (r_edits_here.mono st.ex)
      cases hv
      refine h_tupL hs71 (h_nwT w (K := K) hr72 (fun p73 B74 H75 s76 r77 => ?_))
      replace m_state := m_state.step s76 nm0
      replace r68 := r68.mono s76.ex
      replace st := st.go s76 go0
      replace w := s76.ok
      refine h_cons ?_
      refine h_dnew w (K := K) (fun p78 B79 H80 s81 r82 => ?_)
      replace m_state := m_state.step s81 nm0
      replace r68 := r68.mono s81.ex
      replace r77 := r77.mono s81.ex
      replace st := st.go s81 go0
      replace w := s81.ok
      refine h_cons ?_
      refine h_tup ?_
      refine h_cons ?_
      refine h_c ?_
      refine h_cons ?_
      refine h_c ?_
      refine h_nil ?_
      refine h_newT w (K := K) (.cons (Rep.int _) (.cons (Rep.int _) .nil)) (fun p83 B84 H85 s86 r87 => ?_) (by show 2 ≤ sizeLine; decide)
      replace m_state := m_state.step s86 nm0
      replace r68 := r68.mono s86.ex
      replace r77 := r77.mono s86.ex
      replace r82 := r82.mono s86.ex
      replace st := st.go s86 go0
      replace w := s86.ok
      replace r87 : Rep K B84 (.ref p83) (enc (⟨1, 2⟩ : (Tp2 Int Int))) := r87
      refine h_cons ?_
      refine h_cb ?_
      refine h_cons ?_
      refine h_lcR1E ?_
      refine h_cons ?_
      refine h_c ?_
      refine h_nil ?_
      have gz88 : -(2 ^ 62) ≤ (2 : Int) := by decide
      refine h_lcR1 P (fun Dl (acc : List (Tp2 Int Int)) (a : Unit) H' => ∃ B', Stp [] B84 H85 B' H' ∧ H85 Dl = none ∧ Mu K B' H' Dl (acc.map enc) ∧ p_state ≠ Dl) (fun Dl hD => ⟨_, Stp.newM w hD, hD, Mu.new w hD .nil, Mu.ne m_state hD⟩) ?_ ?_ gz88
      · rintro Dl89 N90 T91 x92 acc95 a96 H97 ⟨B98, s99, hD100, m101, ne105⟩ hlox92 hhix92 hz102 kk103 kn104 P
        have wj107 := w
        have sj106 := s99
        have n108 := st.nn hD100
        replace m_state := m_state.step s99 nm0
        replace r68 := r68.mono s99.ex
        replace r77 := r77.mono s99.ex
        replace r82 := r82.mono s99.ex
        replace r87 := r87.mono s99.ex
        replace st := st.go s99 go0
        replace w := s99.ok
        refine h_gname ?_
        refine h_lcT rfl ?_
        refine h_tup ?_
        refine h_cons ?_
        refine h_var rfl ?_
        refine h_cons ?_
        refine h_var rfl ?_
        refine h_nil ?_
        refine h_newT w (K := K) (.cons (Rep.int _) (.cons (Rep.int _) .nil)) (fun p109 B110 H111 s112 r113 => ?_) (by show 2 ≤ sizeLine; decide)
        replace m_state := m_state.step s112 nm0
        replace r68 := r68.mono s112.ex
        replace r77 := r77.mono s112.ex
        replace r82 := r82.mono s112.ex
        replace r87 := r87.mono s112.ex
        replace m101 := m101.step s112 nm0
        replace st := st.go s112 go0
        replace sj106 := sj106.go s112 go0
        replace w := s112.ok
        replace r113 : Rep K B110 (.ref p109) (enc (⟨x92, x92⟩ : (Tp2 Int Int))) := r113
        refine h_app (b := (⟨x92, x92⟩ : (Tp2 Int Int))) w m101 r113 hz102 (fun H114 s115 m101 => ?_)
        replace m_state := m_state.step s115 (nm1 ne105)
        replace r68 := r68.mono s115.ex
        replace r77 := r77.mono s115.ex
        replace r82 := r82.mono s115.ex
        replace r87 := r87.mono s115.ex
        replace st := st.go s115 (go1 (.inr n108))
        replace sj106 := sj106.go s115 (go1 (.inr hD100))
        replace w := s115.ok
        exact kk103 (⟨x92, x92⟩ : (Tp2 Int Int)) () _ ⟨_, sj106, hD100, m101, ne105⟩ P.ok
      · rintro Dl89 acc95 a96 H97 ⟨B98, s99, hD100, m101, ne105⟩ P
        have n116 := st.nn hD100
        replace m_state := m_state.step s99 nm0
        replace r68 := r68.mono s99.ex
        replace r77 := r77.mono s99.ex
        replace r82 := r82.mono s99.ex
        replace r87 := r87.mono s99.ex
        replace st := st.go s99 go0
        replace w := s99.ok
        replace P := P.un2
        obtain ⟨B121, e117, k118, g119, r120⟩ := Mu.keep m101
        replace st := g119 _ _ _ st w0 n116
        replace m_state := m_state.kp e117 k118 ne105
        replace r68 := r68.mono e117
        replace r77 := r77.mono e117
        replace r82 := r82.mono e117
        replace r87 := r87.mono e117
        replace w := st.ok
        replace r120 : Rep K B121 (.ref Dl89) (enc acc95) := r120
        refine h_nil ?_
        obtain ⟨p122, xs123, hv, hs124, hr125⟩ := Rep.sq w r120
        cases hv
        refine h_dictP w hs124 hr125 (fun p126 B127 H128 s129 r130 => ?_)
        replace m_state := m_state.step s129 nm0
        replace r68 := r68.mono s129.ex
        replace r77 := r77.mono s129.ex
        replace r82 := r82.mono s129.ex
        replace r87 := r87.mono s129.ex
        replace st := st.go s129 go0
        replace w := s129.ok
        refine h_nil ?_
        refine h_newL w (ds := (([(enc ()), (enc (5 : Int)), (enc true), (enc ("" : Str)), (enc ("edits" : Str)), (.tup (a_edits_here.map enc) : D), (.dic [] : D), (enc (⟨1, 2⟩ : (Tp2 Int Int))), (.dic (dictI acc95) : D)] : List D)).map enc) (K := K) (.cons Rep.non (.cons (Rep.int _) (.cons (Rep.bl _) (.cons (Rep.str _) (.cons (Rep.str _) (.cons r77 (.cons r82 (.cons r87 (.cons r130 .nil))))))))) (fun p131 B132 H133 s134 r135 => ?_) (by show 9 ≤ sizeLine; decide)
        replace m_state := m_state.step s134 nm0
        replace r68 := r68.mono s134.ex
        replace st := st.go s134 go0
        replace w := s134.ok
        replace r135 : Rep K B132 (.ref p131) (enc ([(enc ()), (enc (5 : Int)), (enc true), (enc ("" : Str)), (enc ("edits" : Str)), (.tup (a_edits_here.map enc) : D), (.dic [] : D), (enc (⟨1, 2⟩ : (Tp2 Int Int))), (.dic (dictI acc95) : D)] : List D)) := r135
        refine h_ret ?_
        refine h_op ?_
        refine h_var rfl ?_
        refine h_call ?_
        refine h_cons ?_
        refine h_var rfl ?_
        refine h_cons ?_
        refine h_c ?_
        refine h_nil ?_
        refine ⟨B132, p_state, x63.2, 9, w, rfl, m_state, (P.bind).mono (fun x136 P => ?_) (fun _ z => z)⟩
        refine fun v140 B137 H138 s139 m_state r141 => ?_
        replace r68 := r68.mono s139.ex
        replace r135 := r135.mono s139.ex
        replace st := st.go s139 (go1 (.inl (by simp)))
        replace w := s139.ok
        cases r141
        obtain ⟨p142, xs143, hv, hs144, hr145⟩ := Rep.sq w r135
        cases hv
        obtain ⟨x146, hx147, P⟩ := P.ix
        obtain ⟨u148, hu, r149⟩ := RepL.atE hr145 hx147
        refine h_ixL hs144 hu ?_
        exact P.ok _ _ _ st m_state r149
    · replace P := P.iteF c1
      refine h_next ?_
      refine h_nx ?_
      refine h_seq <| h_if ?_
      refine h_test ?_
      refine h_op ?_
      refine h_var rfl ?_
      refine h_c ?_
      refine h_eqI ?_
      refine h_bl ?_
      refine h_ite (fun c1 => ?_) (fun c1 => ?_)
      · replace P := P.iteT c1
        refine h_ret ?_
        refine h_op ?_
        refine h_op ?_
        refine h_sl ?_
        refine h_var rfl ?_
        refine h_nopart ?_
        refine h_part ?_
        refine h_var rfl ?_
        refine h_isI ?_
        obtain ⟨p150, xs151, hv, hs152, hr153⟩ := Rep.sq w (r_edits_here.mono st.ex)
        cases hv
        refine h_slQ hs152 ?_
        refine h_nwL w (ds := ((cutL a_edits_here none (some x11.1))).map enc) (K := K) (hr153.cut none (some x11.1)) (fun p154 B155 H156 s157 r158 => ?_) 
        replace m_state := m_state.step s157 nm0
        replace r68 := r68.mono s157.ex
        replace st := st.go s157 go0
        replace w := s157.ok
        replace r158 : Rep K B155 (.ref p154) (enc (cutL a_edits_here none (some x11.1))) := r158
        refine h_lst ?_
        refine h_cons ?_
        refine h_var rfl ?_
        refine h_nil ?_
        refine h_newL w (ds := (([x63.1] : List D)).map enc) (K := K) (.cons r68 .nil) (fun p159 B160 H161 s162 r163 => ?_) (by show 1 ≤ sizeLine; decide)
        replace m_state := m_state.step s162 nm0
        replace r68 := r68.mono s162.ex
        replace r158 := r158.mono s162.ex
        replace st := st.go s162 go0
        replace w := s162.ok
        replace r163 : Rep K B160 (.ref p159) (enc ([x63.1] : List D)) := r163
        obtain ⟨p164, xs165, hv, hs166, hr167⟩ := Rep.sq w r158
        cases hv
        obtain ⟨p168, xs169, hv, hs170, hr171⟩ := Rep.sq w r163
        cases hv
        replace hr167 := hr167.toD
        obtain ⟨gd, P⟩ := P.guard
        refine h_cat hs166 hs170 (by have g := gd; simp only [hr167.length, hr171.length, List.length_map] at g ⊢; exact Nat.le_trans g (by decide)) ?_
        refine h_nwL w (ds := ((((cutL a_edits_here none (some x11.1)).map enc : List D) ++ ([x63.1] : List D))).map enc) (K := K) (RepL.cat hr167 hr171) (fun p172 B173 H174 s175 r176 => ?_) 
        replace m_state := m_state.step s175 nm0
        replace r68 := r68.mono s175.ex
        replace st := st.go s175 go0
        replace w := s175.ok
        replace r176 : Rep K B173 (.ref p172) (enc (((cutL a_edits_here none (some x11.1)).map enc : List D) ++ ([x63.1] : List D))) := r176
        refine h_sl ?_
        refine h_var rfl ?_
        refine h_part ?_
        refine h_var rfl ?_
        refine h_isI ?_
        refine h_nopart ?_
        obtain ⟨p177, xs178, hv, hs179, hr180⟩ := Rep.sq w (r_edits_here.mono st.ex)
        cases hv
        refine h_slQ hs179 ?_
        refine h_nwL w (ds := ((cutL a_edits_here (some x11.1) none)).map enc) (K := K) (hr180.cut (some x11.1) none) (fun p181 B182 H183 s184 r185 => ?_) 
        replace m_state := m_state.step s184 nm0
        replace r68 := r68.mono s184.ex
        replace r176 := r176.mono s184.ex
        replace st := st.go s184 go0
        replace w := s184.ok
        replace r185 : Rep K B182 (.ref p181) (enc (cutL a_edits_here (some x11.1) none)) := r185
        obtain ⟨p186, xs187, hv, hs188, hr189⟩ := Rep.sq w r176
        cases hv
        obtain ⟨p190, xs191, hv, hs192, hr193⟩ := Rep.sq w r185
        cases hv
        replace hr193 := hr193.toD
        obtain ⟨gd, P⟩ := P.guard
        refine h_cat hs188 hs192 (by have g := gd; simp only [hr189.length, hr193.length, List.length_map] at g ⊢; exact Nat.le_trans g (by decide)) ?_
        refine h_nwL w (ds := (((((cutL a_edits_here none (some x11.1)).map enc : List D) ++ ([x63.1] : List D)) ++ ((cutL a_edits_here (some x11.1) none).map enc : List D))).map enc) (K := K) (RepL.cat hr189 hr193) (fun p194 B195 H196 s197 r198 => ?_) 
        replace m_state := m_state.step s197 nm0
        replace r68 := r68.mono s197.ex
        replace st := st.go s197 go0
        replace w := s197.ok
        replace r198 : Rep K B195 (.ref p194) (enc ((((cutL a_edits_here none (some x11.1)).map enc : List D) ++ ([x63.1] : List D)) ++ ((cutL a_edits_here (some x11.1) none).map enc : List D))) := r198
        exact P.ok _ _ _ st m_state r198
      · replace P := P.iteF c1
        refine h_next ?_
        refine h_nx ?_
        refine h_ret ?_
        refine h_op ?_
        refine h_op ?_
        refine h_sl ?_
        refine h_var rfl ?_
        refine h_nopart ?_
        refine h_part ?_
        refine h_var rfl ?_
        refine h_isI ?_
        obtain ⟨p199, xs200, hv, hs201, hr202⟩ := Rep.sq w (r_edits_here.mono st.ex)
        cases hv
        refine h_slQ hs201 ?_
        refine h_nwL w (ds := ((cutL a_edits_here none (some x11.1))).map enc) (K := K) (hr202.cut none (some x11.1)) (fun p203 B204 H205 s206 r207 => ?_) 
        replace m_state := m_state.step s206 nm0
        replace r68 := r68.mono s206.ex
        replace st := st.go s206 go0
        replace w := s206.ok
        replace r207 : Rep K B204 (.ref p203) (enc (cutL a_edits_here none (some x11.1))) := r207
        refine h_lst ?_
        refine h_cons ?_
        refine h_var rfl ?_
        refine h_nil ?_
        refine h_newL w (ds := (([x63.1] : List D)).map enc) (K := K) (.cons r68 .nil) (fun p208 B209 H210 s211 r212 => ?_) (by show 1 ≤ sizeLine; decide)
        replace m_state := m_state.step s211 nm0
        replace r68 := r68.mono s211.ex
        replace r207 := r207.mono s211.ex
        replace st := st.go s211 go0
        replace w := s211.ok
        replace r212 : Rep K B209 (.ref p208) (enc ([x63.1] : List D)) := r212
        obtain ⟨p213, xs214, hv, hs215, hr216⟩ := Rep.sq w r207
        cases hv
        obtain ⟨p217, xs218, hv, hs219, hr220⟩ := Rep.sq w r212
        cases hv
        replace hr216 := hr216.toD
        obtain ⟨gd, P⟩ := P.guard
        refine h_cat hs215 hs219 (by have g := gd; simp only [hr216.length, hr220.length, List.length_map] at g ⊢; exact Nat.le_trans g (by decide)) ?_
        refine h_nwL w (ds := ((((cutL a_edits_here none (some x11.1)).map enc : List D) ++ ([x63.1] : List D))).map enc) (K := K) (RepL.cat hr216 hr220) (fun p221 B222 H223 s224 r225 => ?_) 
        replace m_state := m_state.step s224 nm0
        replace r68 := r68.mono s224.ex
        replace st := st.go s224 go0
        replace w := s224.ok
        replace r225 : Rep K B222 (.ref p221) (enc (((cutL a_edits_here none (some x11.1)).map enc : List D) ++ ([x63.1] : List D))) := r225
        refine h_sl ?_
        refine h_var rfl ?_
        refine h_part ?_
        refine h_op ?_
        refine h_var rfl ?_
        refine h_c ?_
        refine h_I0 ?_
        refine h_isI ?_
        refine h_nopart ?_
        obtain ⟨p226, xs227, hv, hs228, hr229⟩ := Rep.sq w (r_edits_here.mono st.ex)
        cases hv
        refine h_slQ hs228 ?_
        refine h_nwL w (ds := ((cutL a_edits_here (some (x11.1 + 1)) none)).map enc) (K := K) (hr229.cut (some (x11.1 + 1)) none) (fun p230 B231 H232 s233 r234 => ?_) 
        replace m_state := m_state.step s233 nm0
        replace r68 := r68.mono s233.ex
        replace r225 := r225.mono s233.ex
        replace st := st.go s233 go0
        replace w := s233.ok
        replace r234 : Rep K B231 (.ref p230) (enc (cutL a_edits_here (some (x11.1 + 1)) none)) := r234
        obtain ⟨p235, xs236, hv, hs237, hr238⟩ := Rep.sq w r225
        cases hv
        obtain ⟨p239, xs240, hv, hs241, hr242⟩ := Rep.sq w r234
        cases hv
        replace hr242 := hr242.toD
        obtain ⟨gd, P⟩ := P.guard
        refine h_cat hs237 hs241 (by have g := gd; simp only [hr238.length, hr242.length, List.length_map] at g ⊢; exact Nat.le_trans g (by decide)) ?_
        refine h_nwL w (ds := (((((cutL a_edits_here none (some x11.1)).map enc : List D) ++ ([x63.1] : List D)) ++ ((cutL a_edits_here (some (x11.1 + 1)) none).map enc : List D))).map enc) (K := K) (RepL.cat hr238 hr242) (fun p243 B244 H245 s246 r247 => ?_) 
        replace m_state := m_state.step s246 nm0
        replace r68 := r68.mono s246.ex
        replace st := st.go s246 go0
        replace w := s246.ok
        replace r247 : Rep K B244 (.ref p243) (enc ((((cutL a_edits_here none (some x11.1)).map enc : List D) ++ ([x63.1] : List D)) ++ ((cutL a_edits_here (some (x11.1 + 1)) none).map enc : List D))) := r247
        exact P.ok _ _ _ st m_state r247
theorem ok__law_deed {f : Addr} {fd : FuncData}  (F : Fun K "_law_deed" "_law_deed" s__law_deed f fd) {f_total__any : Addr} {d_total__any : FuncData} (g_total__any : mg "total" = some (.ref f_total__any)) (k_total__any : PySem.W.keepIn K (.ref f_total__any) = true) (b_total__any : L2.Binds K d_total__any ["edits"] []) (G_total__any : FnOk Pr wo K mg base (L2.CX Pr wo) 7 f_total__any d_total__any ["edits"] (sp_total__any K mg)) {f_mapped__any : Addr} {d_mapped__any : FuncData} (g_mapped__any : mg "mapped" = some (.ref f_mapped__any)) (k_mapped__any : PySem.W.keepIn K (.ref f_mapped__any) = true) (b_mapped__any : L2.Binds K d_mapped__any ["edits", "t"] []) (G_mapped__any : FnOk Pr wo K mg base (L2.CX Pr wo) 7 f_mapped__any d_mapped__any ["edits", "t"] (sp_mapped__any K mg)) {f_part__any : Addr} {d_part__any : FuncData} (g_part__any : mg "part" = some (.ref f_part__any)) (k_part__any : PySem.W.keepIn K (.ref f_part__any) = true) (b_part__any : L2.Binds K d_part__any ["edits", "low", "high"] []) (G_part__any : FnOk Pr wo K mg base (L2.CX Pr wo) 7 f_part__any d_part__any ["edits", "low", "high"] (sp_part__any K mg)) {f_stretches__any : Addr} {d_stretches__any : FuncData} (g_stretches__any : mg "stretches" = some (.ref f_stretches__any)) (k_stretches__any : PySem.W.keepIn K (.ref f_stretches__any) = true) (b_stretches__any : L2.Binds K d_stretches__any ["edits", "low", "high"] []) (G_stretches__any : FnOk Pr wo K mg base (L2.CX Pr wo) 7 f_stretches__any d_stretches__any ["edits", "low", "high"] (sp_stretches__any K mg)) {f_over__any : Addr} {d_over__any : FuncData} (g_over__any : mg "over" = some (.ref f_over__any)) (k_over__any : PySem.W.keepIn K (.ref f_over__any) = true) (b_over__any : L2.Binds K d_over__any ["outer", "inner"] []) (G_over__any : FnOk Pr wo K mg base (L2.CX Pr wo) 7 f_over__any d_over__any ["outer", "inner"] (sp_over__any K mg)) {f_after__any : Addr} {d_after__any : FuncData} (g_after__any : mg "after" = some (.ref f_after__any)) (k_after__any : PySem.W.keepIn K (.ref f_after__any) = true) (b_after__any : L2.Binds K d_after__any ["one", "other"] []) (G_after__any : FnOk Pr wo K mg base (L2.CX Pr wo) 7 f_after__any d_after__any ["one", "other"] (sp_after__any K mg)) {f_parted__any : Addr} {d_parted__any : FuncData} (g_parted__any : mg "parted" = some (.ref f_parted__any)) (k_parted__any : PySem.W.keepIn K (.ref f_parted__any) = true) (b_parted__any : L2.Binds K d_parted__any ["one", "other"] []) (G_parted__any : FnOk Pr wo K mg base (L2.CX Pr wo) 7 f_parted__any d_parted__any ["one", "other"] (sp_parted__any K mg)) {f_tidy__any : Addr} {d_tidy__any : FuncData} (g_tidy__any : mg "tidy" = some (.ref f_tidy__any)) (k_tidy__any : PySem.W.keepIn K (.ref f_tidy__any) = true) (b_tidy__any : L2.Binds K d_tidy__any ["edits"] []) (G_tidy__any : FnOk Pr wo K mg base (L2.CX Pr wo) 7 f_tidy__any d_tidy__any ["edits"] (sp_tidy__any K mg)) : FnOk Pr wo K mg base (L2.CX Pr wo) 8 f fd ["_law_way", "_law_bad", "_law_good", "_law_t"] (sp__law_deed K mg) := by
  refine F.okX sc__law_deed (fun vs H Q E h => ?_) (fun cdv A outer s H0 vs Q E hr h => ?_)
  · obtain ⟨_, _, _, _, _, _, _, _, _, rfl, _⟩ := h; rfl
  · obtain ⟨B0, a_way, v_bad, a_bad, v_good, a_good, v_t, a_t, w, rfl, r_bad, r_good, r_t, P⟩ := h
    have w0 := w
    have hu := hu_of hr
    have hu64 := hu64_of hr
    have hu65 := hu65_of hr
    have hr7 : Room 7 _ := hr.mono (by decide)
    refine ⟨_, (pss_cons (ps_if (pt_cmpR op_eq (pv 0) pe_int (nomark _)) (pss_one (ps_ret (pe_callS G_mapped__any hr7 rfl g_mapped__any k_mapped__any b_mapped__any (fun σ => passAt (takes_of rfl rfl rfl rfl) σ) (pa_cons (pv 1) (pa_cons (pv 3) pa_nil))))) pss_nil)
      (pss_cons (ps_if (pt_cmpR op_eq (pv 0) pe_int (nomark _)) (pss_one (ps_ret (pe_callS G_part__any hr7 rfl g_part__any k_part__any b_part__any (fun σ => passAt (takes_of rfl rfl rfl rfl) σ) (pa_cons (pv 1) (pa_cons (pv 3) (pa_cons (pv 3) pa_nil)))))) pss_nil)
      (pss_cons (ps_if (pt_cmpR op_eq (pv 0) pe_int (nomark _)) (pss_one (ps_ret (pe_callS G_stretches__any hr7 rfl g_stretches__any k_stretches__any b_stretches__any (fun σ => passAt (takes_of rfl rfl rfl rfl) σ) (pa_cons (pv 1) (pa_cons (pv 3) (pa_cons (pv 3) pa_nil)))))) pss_nil)
      (pss_cons (ps_if (pt_cmpR op_eq (pv 0) pe_int (nomark _)) (pss_one (ps_ret (pe_callS G_over__any hr7 rfl g_over__any k_over__any b_over__any (fun σ => passAt (takes_of rfl rfl rfl rfl) σ) (pa_cons (pv 1) (pa_cons (pv 2) pa_nil))))) pss_nil)
      (pss_cons (ps_if (pt_cmpR op_eq (pv 0) pe_int (nomark _)) (pss_one (ps_ret (pe_callS G_over__any hr7 rfl g_over__any k_over__any b_over__any (fun σ => passAt (takes_of rfl rfl rfl rfl) σ) (pa_cons (pv 2) (pa_cons (pv 1) pa_nil))))) pss_nil)
      (pss_cons (ps_if (pt_cmpR op_eq (pv 0) pe_int (nomark _)) (pss_one (ps_ret (pe_callS G_after__any hr7 rfl g_after__any k_after__any b_after__any (fun σ => passAt (takes_of rfl rfl rfl rfl) σ) (pa_cons (pv 1) (pa_cons (pv 2) pa_nil))))) pss_nil)
      (pss_cons (ps_if (pt_cmpR op_eq (pv 0) pe_int (nomark _)) (pss_one (ps_ret (pe_callS G_after__any hr7 rfl g_after__any k_after__any b_after__any (fun σ => passAt (takes_of rfl rfl rfl rfl) σ) (pa_cons (pv 2) (pa_cons (pv 1) pa_nil))))) pss_nil)
      (pss_cons (ps_if (pt_cmpR op_eq (pv 0) pe_int (nomark _)) (pss_one (ps_ret (pe_callS G_parted__any hr7 rfl g_parted__any k_parted__any b_parted__any (fun σ => passAt (takes_of rfl rfl rfl rfl) σ) (pa_cons (pv 1) (pa_cons (pv 2) pa_nil))))) pss_nil)
      (pss_cons (ps_if (pt_cmpR op_eq (pv 0) pe_int (nomark _)) (pss_one (ps_ret (pe_callS G_parted__any hr7 rfl g_parted__any k_parted__any b_parted__any (fun σ => passAt (takes_of rfl rfl rfl rfl) σ) (pa_cons (pv 2) (pa_cons (pv 1) pa_nil))))) pss_nil)
      (pss_cons (ps_if (pt_cmpR op_eq (pv 0) pe_int (nomark _)) (pss_one (ps_ret (pe_callS G_tidy__any hr7 rfl g_tidy__any k_tidy__any b_tidy__any (fun σ => passAt (takes_of rfl rfl rfl rfl) σ) (pa_cons (pv 1) pa_nil)))) pss_nil)
      (pss_one (ps_ret (pe_callS G_total__any hr7 rfl g_total__any k_total__any b_total__any (fun σ => passAt (takes_of rfl rfl rfl rfl) σ) (pa_cons (pv 1) pa_nil)))))))))))))), ?_⟩
    unfold l_deed at P
    have st := Stp.refl (W := []) w
    refine h_seq <| h_if ?_
    refine h_test ?_
    refine h_op ?_
    refine h_var rfl ?_
    refine h_c ?_
    refine h_eqI ?_
    refine h_bl ?_
    refine h_ite (fun c1 => ?_) (fun c1 => ?_)
    · replace P := P.iteT c1
      refine h_ret ?_
      refine h_callS ?_
      refine h_cons ?_
      refine h_var rfl ?_
      refine h_cons ?_
      refine h_var rfl ?_
      refine h_nil ?_
      refine ⟨B0, v_bad, a_bad, v_t, a_t, w, rfl, (r_bad.mono st.ex), (r_t.mono st.ex), Post.mono2 P.bind (fun e7 P => ?_) (fun x1 P => ?_)⟩
      · skip
        exact fun C B' H' g s => P C B' H' g (st.go s go0)
      refine fun v5 B2 H3 s4 r6 => ?_
      replace st := st.go s4 go0
      replace w := s4.ok
      exact P.ok _ _ _ st r6
    · replace P := P.iteF c1
      refine h_next ?_
      refine h_nx ?_
      refine h_seq <| h_if ?_
      refine h_test ?_
      refine h_op ?_
      refine h_var rfl ?_
      refine h_c ?_
      refine h_eqI ?_
      refine h_bl ?_
      refine h_ite (fun c1 => ?_) (fun c1 => ?_)
      · replace P := P.iteT c1
        refine h_ret ?_
        refine h_callS ?_
        refine h_cons ?_
        refine h_var rfl ?_
        refine h_cons ?_
        refine h_var rfl ?_
        refine h_cons ?_
        refine h_var rfl ?_
        refine h_nil ?_
        refine ⟨B0, v_bad, a_bad, v_t, a_t, v_t, a_t, w, rfl, (r_bad.mono st.ex), (r_t.mono st.ex), (r_t.mono st.ex), Post.mono2 P.bind (fun e14 P => ?_) (fun x8 P => ?_)⟩
        · skip
          exact fun C B' H' g s => P C B' H' g (st.go s go0)
        refine fun v12 B9 H10 s11 r13 => ?_
        replace st := st.go s11 go0
        replace w := s11.ok
        exact P.ok _ _ _ st r13
      · replace P := P.iteF c1
        refine h_next ?_
        refine h_nx ?_
        refine h_seq <| h_if ?_
        refine h_test ?_
        refine h_op ?_
        refine h_var rfl ?_
        refine h_c ?_
        refine h_eqI ?_
        refine h_bl ?_
        refine h_ite (fun c1 => ?_) (fun c1 => ?_)
        · replace P := P.iteT c1
          refine h_ret ?_
          refine h_callS ?_
          refine h_cons ?_
          refine h_var rfl ?_
          refine h_cons ?_
          refine h_var rfl ?_
          refine h_cons ?_
          refine h_var rfl ?_
          refine h_nil ?_
          refine ⟨B0, v_bad, a_bad, v_t, a_t, v_t, a_t, w, rfl, (r_bad.mono st.ex), (r_t.mono st.ex), (r_t.mono st.ex), Post.mono2 P.bind (fun e21 P => ?_) (fun x15 P => ?_)⟩
          · skip
            exact fun C B' H' g s => P C B' H' g (st.go s go0)
          refine fun v19 B16 H17 s18 r20 => ?_
          replace st := st.go s18 go0
          replace w := s18.ok
          exact P.ok _ _ _ st r20
        · replace P := P.iteF c1
          refine h_next ?_
          refine h_nx ?_
          refine h_seq <| h_if ?_
          refine h_test ?_
          refine h_op ?_
          refine h_var rfl ?_
          refine h_c ?_
          refine h_eqI ?_
          refine h_bl ?_
          refine h_ite (fun c1 => ?_) (fun c1 => ?_)
          · replace P := P.iteT c1
            refine h_ret ?_
            refine h_callS ?_
            refine h_cons ?_
            refine h_var rfl ?_
            refine h_cons ?_
            refine h_var rfl ?_
            refine h_nil ?_
            refine ⟨B0, v_bad, a_bad, v_good, a_good, w, rfl, (r_bad.mono st.ex), (r_good.mono st.ex), Post.mono2 P.bind (fun e28 P => ?_) (fun x22 P => ?_)⟩
            · skip
              exact fun C B' H' g s => P C B' H' g (st.go s go0)
            refine fun v26 B23 H24 s25 r27 => ?_
            replace st := st.go s25 go0
            replace w := s25.ok
            exact P.ok _ _ _ st r27
          · replace P := P.iteF c1
            refine h_next ?_
            refine h_nx ?_
            refine h_seq <| h_if ?_
            refine h_test ?_
            refine h_op ?_
            refine h_var rfl ?_
            refine h_c ?_
            refine h_eqI ?_
            refine h_bl ?_
            refine h_ite (fun c1 => ?_) (fun c1 => ?_)
            · replace P := P.iteT c1
              refine h_ret ?_
              refine h_callS ?_
              refine h_cons ?_
              refine h_var rfl ?_
              refine h_cons ?_
              refine h_var rfl ?_
              refine h_nil ?_
              refine ⟨B0, v_good, a_good, v_bad, a_bad, w, rfl, (r_good.mono st.ex), (r_bad.mono st.ex), Post.mono2 P.bind (fun e35 P => ?_) (fun x29 P => ?_)⟩
              · skip
                exact fun C B' H' g s => P C B' H' g (st.go s go0)
              refine fun v33 B30 H31 s32 r34 => ?_
              replace st := st.go s32 go0
              replace w := s32.ok
              exact P.ok _ _ _ st r34
            · replace P := P.iteF c1
              refine h_next ?_
              refine h_nx ?_
              refine h_seq <| h_if ?_
              refine h_test ?_
              refine h_op ?_
              refine h_var rfl ?_
              refine h_c ?_
              refine h_eqI ?_
              refine h_bl ?_
              refine h_ite (fun c1 => ?_) (fun c1 => ?_)
              · replace P := P.iteT c1
                refine h_ret ?_
                refine h_callS ?_
                refine h_cons ?_
                refine h_var rfl ?_
                refine h_cons ?_
                refine h_var rfl ?_
                refine h_nil ?_
                refine ⟨B0, v_bad, a_bad, v_good, a_good, w, rfl, (r_bad.mono st.ex), (r_good.mono st.ex), Post.mono2 P.bind (fun e42 P => ?_) (fun x36 P => ?_)⟩
                · skip
                  exact fun C B' H' g s => P C B' H' g (st.go s go0)
                refine fun v40 B37 H38 s39 r41 => ?_
                replace st := st.go s39 go0
                replace w := s39.ok
                exact P.ok _ _ _ st r41
              · replace P := P.iteF c1
                refine h_next ?_
                refine h_nx ?_
                refine h_seq <| h_if ?_
                refine h_test ?_
                refine h_op ?_
                refine h_var rfl ?_
                refine h_c ?_
                refine h_eqI ?_
                refine h_bl ?_
                refine h_ite (fun c1 => ?_) (fun c1 => ?_)
                · replace P := P.iteT c1
                  refine h_ret ?_
                  refine h_callS ?_
                  refine h_cons ?_
                  refine h_var rfl ?_
                  refine h_cons ?_
                  refine h_var rfl ?_
                  refine h_nil ?_
                  refine ⟨B0, v_good, a_good, v_bad, a_bad, w, rfl, (r_good.mono st.ex), (r_bad.mono st.ex), Post.mono2 P.bind (fun e49 P => ?_) (fun x43 P => ?_)⟩
                  · skip
                    exact fun C B' H' g s => P C B' H' g (st.go s go0)
                  refine fun v47 B44 H45 s46 r48 => ?_
                  replace st := st.go s46 go0
                  replace w := s46.ok
                  exact P.ok _ _ _ st r48
                · replace P := P.iteF c1
                  refine h_next ?_
                  refine h_nx ?_
                  refine h_seq <| h_if ?_
                  refine h_test ?_
                  refine h_op ?_
                  refine h_var rfl ?_
                  refine h_c ?_
                  refine h_eqI ?_
                  refine h_bl ?_
                  refine h_ite (fun c1 => ?_) (fun c1 => ?_)
                  · replace P := P.iteT c1
                    refine h_ret ?_
                    refine h_callS ?_
                    refine h_cons ?_
                    refine h_var rfl ?_
                    refine h_cons ?_
                    refine h_var rfl ?_
                    refine h_nil ?_
                    refine ⟨B0, v_bad, a_bad, v_good, a_good, w, rfl, (r_bad.mono st.ex), (r_good.mono st.ex), Post.mono2 P.bind (fun e56 P => ?_) (fun x50 P => ?_)⟩
                    · skip
                      exact fun C B' H' g s => P C B' H' g (st.go s go0)
                    refine fun v54 B51 H52 s53 r55 => ?_
                    replace st := st.go s53 go0
                    replace w := s53.ok
                    exact P.ok _ _ _ st r55
                  · replace P := P.iteF c1
                    refine h_next ?_
                    refine h_nx ?_
                    refine h_seq <| h_if ?_
                    refine h_test ?_
                    refine h_op ?_
                    refine h_var rfl ?_
                    refine h_c ?_
                    refine h_eqI ?_
                    refine h_bl ?_
                    refine h_ite (fun c1 => ?_) (fun c1 => ?_)
                    · replace P := P.iteT c1
                      refine h_ret ?_
                      refine h_callS ?_
                      refine h_cons ?_
                      refine h_var rfl ?_
                      refine h_cons ?_
                      refine h_var rfl ?_
                      refine h_nil ?_
                      refine ⟨B0, v_good, a_good, v_bad, a_bad, w, rfl, (r_good.mono st.ex), (r_bad.mono st.ex), Post.mono2 P.bind (fun e63 P => ?_) (fun x57 P => ?_)⟩
                      · skip
                        exact fun C B' H' g s => P C B' H' g (st.go s go0)
                      refine fun v61 B58 H59 s60 r62 => ?_
                      replace st := st.go s60 go0
                      replace w := s60.ok
                      exact P.ok _ _ _ st r62
                    · replace P := P.iteF c1
                      refine h_next ?_
                      refine h_nx ?_
                      refine h_seq <| h_if ?_
                      refine h_test ?_
                      refine h_op ?_
                      refine h_var rfl ?_
                      refine h_c ?_
                      refine h_eqI ?_
                      refine h_bl ?_
                      refine h_ite (fun c1 => ?_) (fun c1 => ?_)
                      · replace P := P.iteT c1
                        refine h_ret ?_
                        refine h_callS ?_
                        refine h_cons ?_
                        refine h_var rfl ?_
                        refine h_nil ?_
                        refine ⟨B0, v_bad, a_bad, w, rfl, (r_bad.mono st.ex), Post.mono2 P.bind (fun e70 P => ?_) (fun x64 P => ?_)⟩
                        · skip
                          exact fun C B' H' g s => P C B' H' g (st.go s go0)
                        refine fun v68 B65 H66 s67 r69 => ?_
                        replace st := st.go s67 go0
                        replace w := s67.ok
                        exact P.ok _ _ _ st r69
                      · replace P := P.iteF c1
                        refine h_next ?_
                        refine h_nx ?_
                        refine h_ret ?_
                        refine h_callS ?_
                        refine h_cons ?_
                        refine h_var rfl ?_
                        refine h_nil ?_
                        refine ⟨B0, v_bad, a_bad, w, rfl, (r_bad.mono st.ex), Post.mono2 P.bind (fun e77 P => ?_) (fun x71 P => ?_)⟩
                        · skip
                          exact fun C B' H' g s => P C B' H' g (st.go s go0)
                        refine fun v75 B72 H73 s74 r76 => ?_
                        replace st := st.go s74 go0
                        replace w := s74.ok
                        exact P.ok _ _ _ st r76
theorem ok__law_kind {f : Addr} {fd : FuncData}  (F : Fun K "_law_kind" "_law_kind" s__law_kind f fd) {C_ScrollError : Addr} (T_ScrollError : ExcR K mg "ScrollError" C_ScrollError) {C_NoEdits : Addr} (T_NoEdits : ExcR K mg "NoEdits" C_NoEdits) {C_NoMoment : Addr} (T_NoMoment : ExcR K mg "NoMoment" C_NoMoment) (p_NoEdits_NoEdits : PySem.W.subIn K (.ref C_NoEdits) (.ref C_NoEdits) = some true) (p_NoEdits_NoMoment : PySem.W.subIn K (.ref C_NoEdits) (.ref C_NoMoment) = some false) (p_NoEdits_ScrollError : PySem.W.subIn K (.ref C_NoEdits) (.ref C_ScrollError) = some true) (p_NoMoment_NoEdits : PySem.W.subIn K (.ref C_NoMoment) (.ref C_NoEdits) = some false) (p_NoMoment_NoMoment : PySem.W.subIn K (.ref C_NoMoment) (.ref C_NoMoment) = some true) (p_NoMoment_ScrollError : PySem.W.subIn K (.ref C_NoMoment) (.ref C_ScrollError) = some true) {f__law_deed : Addr} {d__law_deed : FuncData} (g__law_deed : mg "_law_deed" = some (.ref f__law_deed)) (k__law_deed : PySem.W.keepIn K (.ref f__law_deed) = true) (b__law_deed : L2.Binds K d__law_deed ["_law_way", "_law_bad", "_law_good", "_law_t"] []) (G__law_deed : FnOk Pr wo K mg base (L2.CX Pr wo) 8 f__law_deed d__law_deed ["_law_way", "_law_bad", "_law_good", "_law_t"] (sp__law_deed K mg)) (bI_isinstance : mg "isinstance" = none) (bI_ValueError : mg "ValueError" = none) : FnOk Pr wo K mg base CX0 9 f fd ["_law_way", "_law_bad", "_law_good", "_law_t"] (sp__law_kind K) := by
  refine F.ok sc__law_kind (fun vs H Q E h => ?_) (fun cdv A outer s H0 vs Q E hr h => ?_)
  · obtain ⟨_, _, _, _, _, _, _, _, _, rfl, _⟩ := h; rfl
  · obtain ⟨B0, a_way, v_bad, a_bad, v_good, a_good, v_t, a_t, w, rfl, r_bad, r_good, r_t, P⟩ := h
    have w0 := w
    have hu := hu_of hr
    have hu64 := hu64_of hr
    have hu65 := hu65_of hr
    have hr8 : Room 8 _ := hr.mono (by decide)
    refine ⟨_, (pss_cons (ps_set (i := 4) sc__law_kind.nd rfl (by first | exact Or.inl rfl | exact Or.inr rfl) pe_str)
      (pss_cons (ps_tryA (K := K) (Wout := fun _ _ _ _ => False) (i := 5) rfl rfl sc__law_kind.nd rfl rfl (T_ScrollError.names rfl (by decide)) takes0 (fun W pn xe tk _ => (pss_one (ps_expr (pe_callS G__law_deed hr8 rfl g__law_deed k__law_deed b__law_deed (fun σ => passAt tk σ) (pa_cons (pv 0) (pa_cons (pv 1) (pa_cons (pv 2) (pa_cons (pv 3) pa_nil)))))))) (fun a oe cls d pn hz hf => (pss_cons (ps_set (i := 4) sc__law_kind.nd rfl (by first | exact Or.inl rfl | exact Or.inr rfl) pe_str)
      (pss_cons (ps_if (PW.pt (pw_and (pt_val (pe_isE (K := K) (a := a) (cls := cls) (d := d) rfl (fun Dc e1 e2 ec => by subst e1 e2; exact (pe_callB (r := rIsE K Dc a) (call_isE ec hz hf) (by rfl) bI_isinstance PyProof.Rows.boot_isinstance (pa_cons (pv 5) (pa_cons (pe_glob (v := .ref C_NoEdits) (by rfl) T_NoEdits.g rfl) pa_nil)))))) (pw_and (pt_val (pe_isE (K := K) (a := a) (cls := cls) (d := d) rfl (fun Dc e1 e2 ec => by subst e1 e2; exact (pe_callB (r := rIsE K Dc a) (call_isE ec hz hf) (by rfl) bI_isinstance PyProof.Rows.boot_isinstance (pa_cons (pv 5) (pa_cons (pe_bltn (v := .ty "ValueError") (by rfl) bI_ValueError Y.boot_ValueError rfl) pa_nil)))))) (pw_and1 (pt_not (pt_val (pe_isE (K := K) (a := a) (cls := cls) (d := d) rfl (fun Dc e1 e2 ec => by subst e1 e2; exact (pe_callB (r := rIsE K Dc a) (call_isE ec hz hf) (by rfl) bI_isinstance PyProof.Rows.boot_isinstance (pa_cons (pv 5) (pa_cons (pe_glob (v := .ref C_NoMoment) (by rfl) T_NoMoment.g rfl) pa_nil))))))))))) (pss_one (ps_set (i := 4) sc__law_kind.nd rfl (by first | exact Or.inl rfl | exact Or.inr rfl) pe_str)) pss_nil)
      (pss_one (ps_if (PW.pt (pw_and (pt_val (pe_isE (K := K) (a := a) (cls := cls) (d := d) rfl (fun Dc e1 e2 ec => by subst e1 e2; exact (pe_callB (r := rIsE K Dc a) (call_isE ec hz hf) (by rfl) bI_isinstance PyProof.Rows.boot_isinstance (pa_cons (pv 5) (pa_cons (pe_glob (v := .ref C_NoMoment) (by rfl) T_NoMoment.g rfl) pa_nil)))))) (pw_and1 (pt_not (pt_val (pe_isE (K := K) (a := a) (cls := cls) (d := d) rfl (fun Dc e1 e2 ec => by subst e1 e2; exact (pe_callB (r := rIsE K Dc a) (call_isE ec hz hf) (by rfl) bI_isinstance PyProof.Rows.boot_isinstance (pa_cons (pv 5) (pa_cons (pe_glob (v := .ref C_NoEdits) (by rfl) T_NoEdits.g rfl) pa_nil)))))))))) (pss_one (ps_set (i := 4) sc__law_kind.nd rfl (by first | exact Or.inl rfl | exact Or.inr rfl) pe_str)) pss_nil))))))
      (pss_one (ps_ret (pv 4))))), ?_⟩
    unfold l_kind at P
    have st := Stp.refl (W := []) w
    refine h_set ?_
    refine h_c ?_
    replace P := P.lt
    generalize hx : ("told" : Str) = x1 at P ⊢
    refine h_seq ?_
    have wj3 := w
    have sj2 := Stp.refl (W := []) w
    refine h_tryJ P (fun (a : Str) σ' H' => ∃ (B' : Hp) (o_e : Option V), Stp [] B0 H0 B' H' ∧ σ' = [some (.int a_way), some (v_bad), some (v_good), some (v_t), some (.str a), o_e]) (fun N4 T5 kk6 kr7 P => ?_) ?_
    · refine h_tryA ?_
      refine h_drop ?_
      refine h_callS ?_
      refine h_cons ?_
      refine h_var rfl ?_
      refine h_cons ?_
      refine h_var rfl ?_
      refine h_cons ?_
      refine h_var rfl ?_
      refine h_cons ?_
      refine h_var rfl ?_
      refine h_nil ?_
      refine ⟨B0, a_way, v_bad, a_bad, v_good, a_good, v_t, a_t, w, rfl, (r_bad.mono st.ex), (r_good.mono st.ex), (r_t.mono st.ex), Post.mono2 P.bind (fun e14 P => ?_) (fun x8 P => ?_)⟩
      · skip
        rintro C18 B15 H16 g s17
        replace st := st.go s17 go0
        replace sj2 := sj2.go s17 go0
        replace w := s17.ok
        obtain ⟨ec, ea⟩ := e14
        have he := P.guard.1
        replace P := P.guard.2
        by_cases hx : ec = "NoEdits"
        · subst hx
          replace P := P.iteT (decide_eq_true rfl)
          obtain rfl : C_NoEdits = C18 := Value.ref.inj (Option.some.inj (T_NoEdits.g.symm.trans g))
          refine h_wAs T_ScrollError.toExcT p_NoEdits_ScrollError (fun ax19 haax19 => ?_)
          refine h_set ?_
          refine h_c ?_
          replace P := P.lt
          generalize hx : ("other" : Str) = x20 at P ⊢
          have wj22 := w
          have sj21 := Stp.refl (W := []) w
          refine h_joinS P (fun (a : Str) σ' H' => ∃ (B' : Hp), Stp [] B15 H16 B' H' ∧ σ' = [some (.int a_way), some (v_bad), some (v_good), some (v_t), some (.str a), some (.ref ax19)]) (fun N kk23 P => h_if ?_) ?_
          · skip
            have wj25 := w
            have sj24 := Stp.refl (W := []) w
            refine h_condJ P (fun H' => ∃ B', Stp [] B15 H16 B' H') (fun N kk26 P => ?_) ?_
            · skip
              refine h_tand ?_
              refine h_tB ?_
              refine h_isE T_NoEdits.toExcT (h_cons (h_var rfl (h_cons (h_c (h_nil ?_)))))
              refine h_isER (T_NoEdits.kit p_NoEdits_NoEdits) ?_
              refine h_bl ?_
              refine h_ite (fun c1 => ?_) (fun c1 => ?_)
              · replace P := P.iteT c1
                refine h_tand ?_
                refine h_tB ?_
                refine h_isE T_NoEdits.toExcT (h_cons (h_var rfl (h_cons (h_c (h_nil ?_)))))
                refine h_isEB T_NoEdits.kitVE ?_
                refine h_bl ?_
                refine h_ite (fun c1 => ?_) (fun c1 => ?_)
                · replace P := P.iteT c1
                  refine h_tnot ?_
                  refine h_tB ?_
                  refine h_isE T_NoEdits.toExcT (h_cons (h_var rfl (h_cons (h_c (h_nil ?_)))))
                  refine h_isER (T_NoMoment.kit p_NoEdits_NoMoment) ?_
                  refine h_bl ?_
                  exact kk26 _ _ ⟨_, sj24⟩ P.ok
                · replace P := P.iteF c1
                  exact kk26 _ _ ⟨_, sj24⟩ P.ok
              · replace P := P.iteF c1
                exact kk26 _ _ ⟨_, sj24⟩ P.ok
            rintro b27 H29 ⟨B28, s30⟩ P
            replace st := st.go s30 go0
            replace sj2 := sj2.go s30 go0
            replace sj21 := sj21.go s30 go0
            replace w := s30.ok
            refine h_ite (fun c1 => ?_) (fun c1 => ?_)
            · replace P := P.iteT c1
              refine h_set1 ?_
              refine h_c ?_
              replace P := P.lt
              generalize hx : ("edits" : Str) = x31 at P ⊢
              refine h_nx ?_
              exact kk23 x31 _ _ ⟨_, sj21, rfl⟩ P.ok
            · replace P := P.iteF c1
              refine h_next ?_
              refine h_nx ?_
              exact kk23 x20 _ _ ⟨_, sj21, rfl⟩ P.ok
          rintro a32 _ H34 ⟨B33, s35, rfl⟩ P
          replace st := st.go s35 go0
          replace sj2 := sj2.go s35 go0
          replace w := s35.ok
          refine h_if ?_
          have wj37 := w
          have sj36 := Stp.refl (W := []) w
          refine h_condJ P (fun H' => ∃ B', Stp [] B33 H34 B' H') (fun N kk38 P => ?_) ?_
          · skip
            refine h_tand ?_
            refine h_tB ?_
            refine h_isE T_NoEdits.toExcT (h_cons (h_var rfl (h_cons (h_c (h_nil ?_)))))
            refine h_isER (T_NoMoment.kit p_NoEdits_NoMoment) ?_
            refine h_bl ?_
            refine h_ite (fun c1 => ?_) (fun c1 => ?_)
            · replace P := P.iteT c1
              refine h_tnot ?_
              refine h_tB ?_
              refine h_isE T_NoEdits.toExcT (h_cons (h_var rfl (h_cons (h_c (h_nil ?_)))))
              refine h_isER (T_NoEdits.kit p_NoEdits_NoEdits) ?_
              refine h_bl ?_
              exact kk38 _ _ ⟨_, sj36⟩ P.ok
            · replace P := P.iteF c1
              exact kk38 _ _ ⟨_, sj36⟩ P.ok
          rintro b39 H41 ⟨B40, s42⟩ P
          replace st := st.go s42 go0
          replace sj2 := sj2.go s42 go0
          replace w := s42.ok
          refine h_ite (fun c1 => ?_) (fun c1 => ?_)
          · replace P := P.iteT c1
            refine h_set1 ?_
            refine h_c ?_
            replace P := P.lt
            generalize hx : ("moment" : Str) = x43 at P ⊢
            refine h_nx ?_
            exact kk6 x43 _ _ ⟨_, _, sj2, rfl⟩ P.ok
          · replace P := P.iteF c1
            refine h_next ?_
            refine h_nx ?_
            exact kk6 a32 _ _ ⟨_, _, sj2, rfl⟩ P.ok
        · replace P := P.iteF (decide_eq_false hx)
          replace he := (List.mem_cons.mp he).resolve_left hx
          obtain rfl : ec = "NoMoment" := List.mem_singleton.mp he
          obtain rfl : C_NoMoment = C18 := Value.ref.inj (Option.some.inj (T_NoMoment.g.symm.trans g))
          refine h_wAs T_ScrollError.toExcT p_NoMoment_ScrollError (fun ax44 haax44 => ?_)
          refine h_set ?_
          refine h_c ?_
          replace P := P.lt
          generalize hx : ("other" : Str) = x45 at P ⊢
          have wj47 := w
          have sj46 := Stp.refl (W := []) w
          refine h_joinS P (fun (a : Str) σ' H' => ∃ (B' : Hp), Stp [] B15 H16 B' H' ∧ σ' = [some (.int a_way), some (v_bad), some (v_good), some (v_t), some (.str a), some (.ref ax44)]) (fun N kk48 P => h_if ?_) ?_
          · skip
            have wj50 := w
            have sj49 := Stp.refl (W := []) w
            refine h_condJ P (fun H' => ∃ B', Stp [] B15 H16 B' H') (fun N kk51 P => ?_) ?_
            · skip
              refine h_tand ?_
              refine h_tB ?_
              refine h_isE T_NoMoment.toExcT (h_cons (h_var rfl (h_cons (h_c (h_nil ?_)))))
              refine h_isER (T_NoEdits.kit p_NoMoment_NoEdits) ?_
              refine h_bl ?_
              refine h_ite (fun c1 => ?_) (fun c1 => ?_)
              · replace P := P.iteT c1
                refine h_tand ?_
                refine h_tB ?_
                refine h_isE T_NoMoment.toExcT (h_cons (h_var rfl (h_cons (h_c (h_nil ?_)))))
                refine h_isEB T_NoMoment.kitVE ?_
                refine h_bl ?_
                refine h_ite (fun c1 => ?_) (fun c1 => ?_)
                · replace P := P.iteT c1
                  refine h_tnot ?_
                  refine h_tB ?_
                  refine h_isE T_NoMoment.toExcT (h_cons (h_var rfl (h_cons (h_c (h_nil ?_)))))
                  refine h_isER (T_NoMoment.kit p_NoMoment_NoMoment) ?_
                  refine h_bl ?_
                  exact kk51 _ _ ⟨_, sj49⟩ P.ok
                · replace P := P.iteF c1
                  exact kk51 _ _ ⟨_, sj49⟩ P.ok
              · replace P := P.iteF c1
                exact kk51 _ _ ⟨_, sj49⟩ P.ok
            rintro b52 H54 ⟨B53, s55⟩ P
            replace st := st.go s55 go0
            replace sj2 := sj2.go s55 go0
            replace sj46 := sj46.go s55 go0
            replace w := s55.ok
            refine h_ite (fun c1 => ?_) (fun c1 => ?_)
            · replace P := P.iteT c1
              refine h_set1 ?_
              refine h_c ?_
              replace P := P.lt
              generalize hx : ("edits" : Str) = x56 at P ⊢
              refine h_nx ?_
              exact kk48 x56 _ _ ⟨_, sj46, rfl⟩ P.ok
            · replace P := P.iteF c1
              refine h_next ?_
              refine h_nx ?_
              exact kk48 x45 _ _ ⟨_, sj46, rfl⟩ P.ok
          rintro a57 _ H59 ⟨B58, s60, rfl⟩ P
          replace st := st.go s60 go0
          replace sj2 := sj2.go s60 go0
          replace w := s60.ok
          refine h_if ?_
          have wj62 := w
          have sj61 := Stp.refl (W := []) w
          refine h_condJ P (fun H' => ∃ B', Stp [] B58 H59 B' H') (fun N kk63 P => ?_) ?_
          · skip
            refine h_tand ?_
            refine h_tB ?_
            refine h_isE T_NoMoment.toExcT (h_cons (h_var rfl (h_cons (h_c (h_nil ?_)))))
            refine h_isER (T_NoMoment.kit p_NoMoment_NoMoment) ?_
            refine h_bl ?_
            refine h_ite (fun c1 => ?_) (fun c1 => ?_)
            · replace P := P.iteT c1
              refine h_tnot ?_
              refine h_tB ?_
              refine h_isE T_NoMoment.toExcT (h_cons (h_var rfl (h_cons (h_c (h_nil ?_)))))
              refine h_isER (T_NoEdits.kit p_NoMoment_NoEdits) ?_
              refine h_bl ?_
              exact kk63 _ _ ⟨_, sj61⟩ P.ok
            · replace P := P.iteF c1
              exact kk63 _ _ ⟨_, sj61⟩ P.ok
          rintro b64 H66 ⟨B65, s67⟩ P
          replace st := st.go s67 go0
          replace sj2 := sj2.go s67 go0
          replace w := s67.ok
          refine h_ite (fun c1 => ?_) (fun c1 => ?_)
          · replace P := P.iteT c1
            refine h_set1 ?_
            refine h_c ?_
            replace P := P.lt
            generalize hx : ("moment" : Str) = x68 at P ⊢
            refine h_nx ?_
            exact kk6 x68 _ _ ⟨_, _, sj2, rfl⟩ P.ok
          · replace P := P.iteF c1
            refine h_next ?_
            refine h_nx ?_
            exact kk6 a57 _ _ ⟨_, _, sj2, rfl⟩ P.ok
      refine fun v12 B9 H10 s11 r13 => ?_
      replace st := st.go s11 go0
      replace sj2 := sj2.go s11 go0
      replace w := s11.ok
      refine h_nx ?_
      exact kk6 x1 _ _ ⟨_, _, sj2, rfl⟩ P.ok
    · rintro a69 _ H71 ⟨B70, o73, s72, rfl⟩ P
      replace st := st.go s72 go0
      replace w := s72.ok
      refine h_nx ?_
      refine h_ret ?_
      refine h_var rfl ?_
      exact P.ok _ _ _ st (Rep.str _)
theorem ok__law_stretch_kind {f : Addr} {fd : FuncData}  (F : Fun K "_law_stretch_kind" "_law_stretch_kind" s__law_stretch_kind f fd) {C_ScrollError : Addr} (T_ScrollError : ExcR K mg "ScrollError" C_ScrollError) {C_NoMoment : Addr} (T_NoMoment : ExcR K mg "NoMoment" C_NoMoment) {C_NoEdits : Addr} (T_NoEdits : ExcR K mg "NoEdits" C_NoEdits) (p_NoEdits_NoMoment : PySem.W.subIn K (.ref C_NoEdits) (.ref C_NoMoment) = some false) (p_NoEdits_ScrollError : PySem.W.subIn K (.ref C_NoEdits) (.ref C_ScrollError) = some true) (p_NoMoment_NoMoment : PySem.W.subIn K (.ref C_NoMoment) (.ref C_NoMoment) = some true) (p_NoMoment_ScrollError : PySem.W.subIn K (.ref C_NoMoment) (.ref C_ScrollError) = some true) {f_part__any : Addr} {d_part__any : FuncData} (g_part__any : mg "part" = some (.ref f_part__any)) (k_part__any : PySem.W.keepIn K (.ref f_part__any) = true) (b_part__any : L2.Binds K d_part__any ["edits", "low", "high"] []) (G_part__any : FnOk Pr wo K mg base (L2.CX Pr wo) 7 f_part__any d_part__any ["edits", "low", "high"] (sp_part__any K mg)) {f_stretches__any : Addr} {d_stretches__any : FuncData} (g_stretches__any : mg "stretches" = some (.ref f_stretches__any)) (k_stretches__any : PySem.W.keepIn K (.ref f_stretches__any) = true) (b_stretches__any : L2.Binds K d_stretches__any ["edits", "low", "high"] []) (G_stretches__any : FnOk Pr wo K mg base (L2.CX Pr wo) 7 f_stretches__any d_stretches__any ["edits", "low", "high"] (sp_stretches__any K mg)) (bI_int : mg "int" = none) (bI_isinstance : mg "isinstance" = none) : FnOk Pr wo K mg base CX0 8 f fd ["_law_way", "_law_good", "_law_low", "_law_high"] (sp__law_stretch_kind K) := by
  refine F.ok sc__law_stretch_kind (fun vs H Q E h => ?_) (fun cdv A outer s H0 vs Q E hr h => ?_)
  · obtain ⟨_, _, _, _, _, _, _, _, _, rfl, _⟩ := h; rfl
  · obtain ⟨B0, a_way, v_good, a_good, v_low, a_low, v_high, a_high, w, rfl, r_good, r_low, r_high, P⟩ := h
    have w0 := w
    have hu := hu_of hr
    have hu64 := hu64_of hr
    have hu65 := hu65_of hr
    have hr7 : Room 7 _ := hr.mono (by decide)
    refine ⟨_, (pss_cons (ps_set (i := 4) sc__law_stretch_kind.nd rfl (by first | exact Or.inl rfl | exact Or.inr rfl) pe_str)
      (pss_cons (ps_tryA (K := K) (Wout := fun _ _ _ _ => False) (i := 5) rfl rfl sc__law_stretch_kind.nd rfl rfl (T_ScrollError.names rfl (by decide)) takes0 (fun W pn xe tk _ => (pss_one (ps_if (pt_cmpR op_eq (pv 0) pe_int (nomark _)) (pss_one (ps_expr (pe_callS G_part__any hr7 rfl g_part__any k_part__any b_part__any (fun σ => passAt tk σ) (pa_cons (pv 1) (pa_cons (pv 2) (pa_cons (pv 3) pa_nil)))))) (pss_one (ps_expr (pe_callS G_stretches__any hr7 rfl g_stretches__any k_stretches__any b_stretches__any (fun σ => passAt tk σ) (pa_cons (pv 1) (pa_cons (pv 2) (pa_cons (pv 3) pa_nil))))))))) (fun a oe cls d pn hz hf => (pss_one (ps_set (i := 4) sc__law_stretch_kind.nd rfl (by first | exact Or.inl rfl | exact Or.inr rfl) (pe_ix (r := rIxL K) ix_list (pe_lst (pa_cons pe_str (pa_cons pe_str pa_nil))) (pe_callTy cr_int (by rfl) bI_int Y.boot_int (pa_cons (pe_isE (K := K) (a := a) (cls := cls) (d := d) rfl (fun Dc e1 e2 ec => by subst e1 e2; exact (pe_callB (r := rIsE K Dc a) (call_isE ec hz hf) (by rfl) bI_isinstance PyProof.Rows.boot_isinstance (pa_cons (pv 5) (pa_cons (pe_glob (v := .ref C_NoMoment) (by rfl) T_NoMoment.g rfl) pa_nil))))) pa_nil)) (fun _ _ => rfl))))))
      (pss_one (ps_ret (pv 4))))), ?_⟩
    unfold l_stretch_kind at P
    have st := Stp.refl (W := []) w
    refine h_set ?_
    refine h_c ?_
    replace P := P.lt
    generalize hx : ("told" : Str) = x1 at P ⊢
    refine h_seq ?_
    have wj3 := w
    have sj2 := Stp.refl (W := []) w
    refine h_tryJ P (fun (a : Str) σ' H' => ∃ (B' : Hp) (o_e : Option V), Stp [] B0 H0 B' H' ∧ σ' = [some (.int a_way), some (v_good), some (v_low), some (v_high), some (.str a), o_e]) (fun N4 T5 kk6 kr7 P => ?_) ?_
    · refine h_tryA ?_
      refine h_if ?_
      refine h_test ?_
      refine h_op ?_
      refine h_var rfl ?_
      refine h_c ?_
      refine h_eqI ?_
      refine h_bl ?_
      refine h_ite (fun c1 => ?_) (fun c1 => ?_)
      · replace P := P.iteT c1
        refine h_drop ?_
        refine h_callS ?_
        refine h_cons ?_
        refine h_var rfl ?_
        refine h_cons ?_
        refine h_var rfl ?_
        refine h_cons ?_
        refine h_var rfl ?_
        refine h_nil ?_
        refine ⟨B0, v_good, a_good, v_low, a_low, v_high, a_high, w, rfl, (r_good.mono st.ex), (r_low.mono st.ex), (r_high.mono st.ex), Post.mono2 P.bind (fun e14 P => ?_) (fun x8 P => ?_)⟩
        · skip
          rintro C18 B15 H16 g s17
          replace st := st.go s17 go0
          replace sj2 := sj2.go s17 go0
          replace w := s17.ok
          obtain ⟨ec, ea⟩ := e14
          have he := P.guard.1
          replace P := P.guard.2
          by_cases hx : ec = "NoEdits"
          · subst hx
            replace P := P.iteT (decide_eq_true rfl)
            obtain rfl : C_NoEdits = C18 := Value.ref.inj (Option.some.inj (T_NoEdits.g.symm.trans g))
            refine h_wAs T_ScrollError.toExcT p_NoEdits_ScrollError (fun ax19 haax19 => ?_)
            refine h_set1 ?_
            refine h_op ?_
            refine h_lst ?_
            refine h_cons ?_
            refine h_c ?_
            refine h_cons ?_
            refine h_c ?_
            refine h_nil ?_
            refine h_newL w (ds := (([("other" : Str), ("moment" : Str)] : List Str)).map enc) (K := K) (.cons (Rep.str _) (.cons (Rep.str _) .nil)) (fun p20 B21 H22 s23 r24 => ?_) (by show 2 ≤ sizeLine; decide)
            replace st := st.go s23 go0
            replace sj2 := sj2.go s23 go0
            replace w := s23.ok
            replace r24 : Rep K B21 (.ref p20) (enc ([("other" : Str), ("moment" : Str)] : List Str)) := r24
            refine h_cb ?_
            refine h_cons ?_
            refine h_isE T_NoEdits.toExcT (h_cons (h_var rfl (h_cons (h_c (h_nil ?_)))))
            refine h_isER (T_NoMoment.kit p_NoEdits_NoMoment) ?_
            refine h_nil ?_
            refine h_intB ?_
            obtain ⟨p25, xs26, hv, hs27, hr28⟩ := Rep.sq w r24
            cases hv
            obtain ⟨x29, hx30, P⟩ := P.ix
            obtain ⟨u31, hu, r32⟩ := RepL.atE hr28 hx30
            refine h_ixL hs27 hu ?_
            cases r32
            refine h_nx ?_
            exact kk6 x29 _ _ ⟨_, _, sj2, rfl⟩ P.ok
          · replace P := P.iteF (decide_eq_false hx)
            replace he := (List.mem_cons.mp he).resolve_left hx
            obtain rfl : ec = "NoMoment" := List.mem_singleton.mp he
            obtain rfl : C_NoMoment = C18 := Value.ref.inj (Option.some.inj (T_NoMoment.g.symm.trans g))
            refine h_wAs T_ScrollError.toExcT p_NoMoment_ScrollError (fun ax33 haax33 => ?_)
            refine h_set1 ?_
            refine h_op ?_
            refine h_lst ?_
            refine h_cons ?_
            refine h_c ?_
            refine h_cons ?_
            refine h_c ?_
            refine h_nil ?_
            refine h_newL w (ds := (([("other" : Str), ("moment" : Str)] : List Str)).map enc) (K := K) (.cons (Rep.str _) (.cons (Rep.str _) .nil)) (fun p34 B35 H36 s37 r38 => ?_) (by show 2 ≤ sizeLine; decide)
            replace st := st.go s37 go0
            replace sj2 := sj2.go s37 go0
            replace w := s37.ok
            replace r38 : Rep K B35 (.ref p34) (enc ([("other" : Str), ("moment" : Str)] : List Str)) := r38
            refine h_cb ?_
            refine h_cons ?_
            refine h_isE T_NoMoment.toExcT (h_cons (h_var rfl (h_cons (h_c (h_nil ?_)))))
            refine h_isER (T_NoMoment.kit p_NoMoment_NoMoment) ?_
            refine h_nil ?_
            refine h_intB ?_
            obtain ⟨p39, xs40, hv, hs41, hr42⟩ := Rep.sq w r38
            cases hv
            obtain ⟨x43, hx44, P⟩ := P.ix
            obtain ⟨u45, hu, r46⟩ := RepL.atE hr42 hx44
            refine h_ixL hs41 hu ?_
            cases r46
            refine h_nx ?_
            exact kk6 x43 _ _ ⟨_, _, sj2, rfl⟩ P.ok
        refine fun v12 B9 H10 s11 r13 => ?_
        replace st := st.go s11 go0
        replace sj2 := sj2.go s11 go0
        replace w := s11.ok
        refine h_nx ?_
        exact kk6 x1 _ _ ⟨_, _, sj2, rfl⟩ P.ok
      · replace P := P.iteF c1
        refine h_drop ?_
        refine h_callS ?_
        refine h_cons ?_
        refine h_var rfl ?_
        refine h_cons ?_
        refine h_var rfl ?_
        refine h_cons ?_
        refine h_var rfl ?_
        refine h_nil ?_
        refine ⟨B0, v_good, a_good, v_low, a_low, v_high, a_high, w, rfl, (r_good.mono st.ex), (r_low.mono st.ex), (r_high.mono st.ex), Post.mono2 P.bind (fun e53 P => ?_) (fun x47 P => ?_)⟩
        · skip
          rintro C57 B54 H55 g s56
          replace st := st.go s56 go0
          replace sj2 := sj2.go s56 go0
          replace w := s56.ok
          obtain ⟨ec, ea⟩ := e53
          have he := P.guard.1
          replace P := P.guard.2
          by_cases hx : ec = "NoEdits"
          · subst hx
            replace P := P.iteT (decide_eq_true rfl)
            obtain rfl : C_NoEdits = C57 := Value.ref.inj (Option.some.inj (T_NoEdits.g.symm.trans g))
            refine h_wAs T_ScrollError.toExcT p_NoEdits_ScrollError (fun ax58 haax58 => ?_)
            refine h_set1 ?_
            refine h_op ?_
            refine h_lst ?_
            refine h_cons ?_
            refine h_c ?_
            refine h_cons ?_
            refine h_c ?_
            refine h_nil ?_
            refine h_newL w (ds := (([("other" : Str), ("moment" : Str)] : List Str)).map enc) (K := K) (.cons (Rep.str _) (.cons (Rep.str _) .nil)) (fun p59 B60 H61 s62 r63 => ?_) (by show 2 ≤ sizeLine; decide)
            replace st := st.go s62 go0
            replace sj2 := sj2.go s62 go0
            replace w := s62.ok
            replace r63 : Rep K B60 (.ref p59) (enc ([("other" : Str), ("moment" : Str)] : List Str)) := r63
            refine h_cb ?_
            refine h_cons ?_
            refine h_isE T_NoEdits.toExcT (h_cons (h_var rfl (h_cons (h_c (h_nil ?_)))))
            refine h_isER (T_NoMoment.kit p_NoEdits_NoMoment) ?_
            refine h_nil ?_
            refine h_intB ?_
            obtain ⟨p64, xs65, hv, hs66, hr67⟩ := Rep.sq w r63
            cases hv
            obtain ⟨x68, hx69, P⟩ := P.ix
            obtain ⟨u70, hu, r71⟩ := RepL.atE hr67 hx69
            refine h_ixL hs66 hu ?_
            cases r71
            refine h_nx ?_
            exact kk6 x68 _ _ ⟨_, _, sj2, rfl⟩ P.ok
          · replace P := P.iteF (decide_eq_false hx)
            replace he := (List.mem_cons.mp he).resolve_left hx
            obtain rfl : ec = "NoMoment" := List.mem_singleton.mp he
            obtain rfl : C_NoMoment = C57 := Value.ref.inj (Option.some.inj (T_NoMoment.g.symm.trans g))
            refine h_wAs T_ScrollError.toExcT p_NoMoment_ScrollError (fun ax72 haax72 => ?_)
            refine h_set1 ?_
            refine h_op ?_
            refine h_lst ?_
            refine h_cons ?_
            refine h_c ?_
            refine h_cons ?_
            refine h_c ?_
            refine h_nil ?_
            refine h_newL w (ds := (([("other" : Str), ("moment" : Str)] : List Str)).map enc) (K := K) (.cons (Rep.str _) (.cons (Rep.str _) .nil)) (fun p73 B74 H75 s76 r77 => ?_) (by show 2 ≤ sizeLine; decide)
            replace st := st.go s76 go0
            replace sj2 := sj2.go s76 go0
            replace w := s76.ok
            replace r77 : Rep K B74 (.ref p73) (enc ([("other" : Str), ("moment" : Str)] : List Str)) := r77
            refine h_cb ?_
            refine h_cons ?_
            refine h_isE T_NoMoment.toExcT (h_cons (h_var rfl (h_cons (h_c (h_nil ?_)))))
            refine h_isER (T_NoMoment.kit p_NoMoment_NoMoment) ?_
            refine h_nil ?_
            refine h_intB ?_
            obtain ⟨p78, xs79, hv, hs80, hr81⟩ := Rep.sq w r77
            cases hv
            obtain ⟨x82, hx83, P⟩ := P.ix
            obtain ⟨u84, hu, r85⟩ := RepL.atE hr81 hx83
            refine h_ixL hs80 hu ?_
            cases r85
            refine h_nx ?_
            exact kk6 x82 _ _ ⟨_, _, sj2, rfl⟩ P.ok
        refine fun v51 B48 H49 s50 r52 => ?_
        replace st := st.go s50 go0
        replace sj2 := sj2.go s50 go0
        replace w := s50.ok
        refine h_nx ?_
        exact kk6 x1 _ _ ⟨_, _, sj2, rfl⟩ P.ok
    · rintro a86 _ H88 ⟨B87, o90, s89, rfl⟩ P
      replace st := st.go s89 go0
      replace w := s89.ok
      refine h_nx ?_
      refine h_ret ?_
      refine h_var rfl ?_
      exact P.ok _ _ _ st (Rep.str _)
theorem ok_law {f : Addr} {fd : FuncData}  (F : Fun K "law" "law" s_law f fd) {f__law_edits : Addr} {d__law_edits : FuncData} (g__law_edits : mg "_law_edits" = some (.ref f__law_edits)) (k__law_edits : PySem.W.keepIn K (.ref f__law_edits) = true) (b__law_edits : L2.Binds K d__law_edits ["_law_state", "_law_few"] []) (G__law_edits : FnOk Pr wo K mg base CX0 5 f__law_edits d__law_edits ["_law_state", "_law_few"] (sp__law_edits K)) {f__law_amount : Addr} {d__law_amount : FuncData} (g__law_amount : mg "_law_amount" = some (.ref f__law_amount)) (k__law_amount : PySem.W.keepIn K (.ref f__law_amount) = true) (b__law_amount : L2.Binds K d__law_amount ["_law_state"] []) (G__law_amount : FnOk Pr wo K mg base CX0 3 f__law_amount d__law_amount ["_law_state"] (sp__law_amount K)) {f__law_plus : Addr} {d__law_plus : FuncData} (g__law_plus : mg "_law_plus" = some (.ref f__law_plus)) (k__law_plus : PySem.W.keepIn K (.ref f__law_plus) = true) (b__law_plus : L2.Binds K d__law_plus ["_law_one", "_law_other"] []) (G__law_plus : FnOk Pr wo K mg base CX0 3 f__law_plus d__law_plus ["_law_one", "_law_other"] (sp__law_plus K)) {f__law_cell_at : Addr} {d__law_cell_at : FuncData} (g__law_cell_at : mg "_law_cell_at" = some (.ref f__law_cell_at)) (k__law_cell_at : PySem.W.keepIn K (.ref f__law_cell_at) = true) (b__law_cell_at : L2.Binds K d__law_cell_at ["_law_script", "_law_k"] []) (G__law_cell_at : FnOk Pr wo K mg base CX0 1 f__law_cell_at d__law_cell_at ["_law_script", "_law_k"] (sp__law_cell_at K)) {f_tidy : Addr} {d_tidy : FuncData} (g_tidy : mg "tidy" = some (.ref f_tidy)) (k_tidy : PySem.W.keepIn K (.ref f_tidy) = true) (b_tidy : L2.Binds K d_tidy ["edits"] []) (G_tidy : FnOk Pr wo K mg base (L2.CX Pr wo) 7 f_tidy d_tidy ["edits"] (sp_tidy K mg)) {f_total : Addr} {d_total : FuncData} (g_total : mg "total" = some (.ref f_total)) (k_total : PySem.W.keepIn K (.ref f_total) = true) (b_total : L2.Binds K d_total ["edits"] []) (G_total : FnOk Pr wo K mg base (L2.CX Pr wo) 7 f_total d_total ["edits"] (sp_total K mg)) {f__law_digit : Addr} {d__law_digit : FuncData} (g__law_digit : mg "_law_digit" = some (.ref f__law_digit)) (k__law_digit : PySem.W.keepIn K (.ref f__law_digit) = true) (b__law_digit : L2.Binds K d__law_digit ["_law_state", "_law_base"] []) (G__law_digit : FnOk Pr wo K mg base CX0 1 f__law_digit d__law_digit ["_law_state", "_law_base"] (sp__law_digit K)) {f__law_bad_edits : Addr} {d__law_bad_edits : FuncData} (g__law_bad_edits : mg "_law_bad_edits" = some (.ref f__law_bad_edits)) (k__law_bad_edits : PySem.W.keepIn K (.ref f__law_bad_edits) = true) (b__law_bad_edits : L2.Binds K d__law_bad_edits ["_law_state", "_law_edits_here"] []) (G__law_bad_edits : FnOk Pr wo K mg base CX0 3 f__law_bad_edits d__law_bad_edits ["_law_state", "_law_edits_here"] (sp__law_bad_edits K)) {f__law_kind : Addr} {d__law_kind : FuncData} (g__law_kind : mg "_law_kind" = some (.ref f__law_kind)) (k__law_kind : PySem.W.keepIn K (.ref f__law_kind) = true) (b__law_kind : L2.Binds K d__law_kind ["_law_way", "_law_bad", "_law_good", "_law_t"] []) (G__law_kind : FnOk Pr wo K mg base CX0 9 f__law_kind d__law_kind ["_law_way", "_law_bad", "_law_good", "_law_t"] (sp__law_kind K)) {f_is_edits : Addr} {d_is_edits : FuncData} (g_is_edits : mg "is_edits" = some (.ref f_is_edits)) (k_is_edits : PySem.W.keepIn K (.ref f_is_edits) = true) (b_is_edits : L2.Binds K d_is_edits ["thing"] []) (G_is_edits : FnOk Pr wo K mg base CX0 5 f_is_edits d_is_edits ["thing"] (sp_is_edits K)) {f__law_stretch_kind : Addr} {d__law_stretch_kind : FuncData} (g__law_stretch_kind : mg "_law_stretch_kind" = some (.ref f__law_stretch_kind)) (k__law_stretch_kind : PySem.W.keepIn K (.ref f__law_stretch_kind) = true) (b__law_stretch_kind : L2.Binds K d__law_stretch_kind ["_law_way", "_law_good", "_law_low", "_law_high"] []) (G__law_stretch_kind : FnOk Pr wo K mg base CX0 8 f__law_stretch_kind d__law_stretch_kind ["_law_way", "_law_good", "_law_low", "_law_high"] (sp__law_stretch_kind K)) (bI_range : mg "range" = none) : FnOk Pr wo K mg base CX0 10 f fd ["_law_script"] (sp_law K) := by
  refine F.ok sc_law (fun vs H Q E h => ?_) (fun cdv A outer s H0 vs Q E hr h => ?_)
  · obtain ⟨_, _, _, _, rfl, _⟩ := h; rfl
  · obtain ⟨B0, v_script, a_script, w, rfl, r_script, P⟩ := h
    have w0 := w
    have hu := hu_of hr
    have hu64 := hu64_of hr
    have hu65 := hu65_of hr
    have hr1 : Room 1 _ := hr.mono (by decide)
    have hr3 : Room 3 _ := hr.mono (by decide)
    have hr5 : Room 5 _ := hr.mono (by decide)
    have hr7 : Room 7 _ := hr.mono (by decide)
    have hr8 : Room 8 _ := hr.mono (by decide)
    have hr9 : Room 9 _ := hr.mono (by decide)
    refine ⟨_, (pss_cons (ps_set (i := 1) sc_law.nd rfl (by first | exact Or.inl rfl | exact Or.inr rfl) (pe_call G__law_edits hr5 rfl g__law_edits k__law_edits b__law_edits .nil pass0 (pa_cons (pe_lst (pa_cons (pe_call G__law_cell_at hr1 rfl g__law_cell_at k__law_cell_at b__law_cell_at .nil pass0 (pa_cons (pv 0) (pa_cons pe_int pa_nil))) pa_nil)) (pa_cons pe_int pa_nil))))
      (pss_cons (ps_set (i := 2) sc_law.nd rfl (by first | exact Or.inl rfl | exact Or.inr rfl) (pe_lst (pa_cons (pe_call G__law_cell_at hr1 rfl g__law_cell_at k__law_cell_at b__law_cell_at .nil pass0 (pa_cons (pv 0) (pa_cons pe_int pa_nil))) pa_nil)))
      (pss_cons (ps_set (i := 3) sc_law.nd rfl (by first | exact Or.inl rfl | exact Or.inr rfl) (pe_tup (pa_cons (pe_call G_tidy hr7 rfl g_tidy k_tidy b_tidy .nil passL (pa_cons (pv 1) pa_nil)) (pa_cons (pe_call G_total hr7 rfl g_total k_total b_total .nil passL (pa_cons (pv 1) pa_nil)) pa_nil))))
      (pss_cons (ps_set (i := 4) sc_law.nd rfl (by first | exact Or.inl rfl | exact Or.inr rfl) (pe_ix (r := rIxL K) ix_list (pe_lst (pa_cons pe_non (pa_cons pe_int (pa_cons pe_bl (pa_cons pe_str (pa_cons (pe_tup (pa_cons (pe_un un_neg pe_int) (pa_cons pe_int pa_nil))) (pa_cons (pe_tup (pa_cons pe_int (pa_cons pe_int pa_nil))) (pa_cons (pe_tup (pa_cons pe_int (pa_cons pe_int pa_nil))) (pa_cons (pe_tup (pa_cons pe_int (pa_cons (pe_un un_neg pe_int) pa_nil))) (pa_cons (pe_lst (pa_cons pe_int (pa_cons pe_int pa_nil))) (pa_cons (pe_tup (pa_cons pe_int pa_nil)) (pa_cons (pe_tup (pa_cons pe_bl (pa_cons pe_int pa_nil))) (pa_cons (pe_tup (pa_cons pe_int (pa_cons pe_int pa_nil))) pa_nil))))))))))))) (pe_call G__law_digit hr1 rfl g__law_digit k__law_digit b__law_digit .nil pass0 (pa_cons (pv 2) (pa_cons pe_int pa_nil))) (fun _ _ => rfl)))
      (pss_cons (ps_for PassesOwn.never rfl (pi_range1 (by rfl) bI_range (pa_cons pe_int pa_nil)) (pg_name (i := 5) sc_law.nd rfl (by first | exact Or.inl rfl | exact Or.inr rfl)) (pss_cons (ps_set (i := 6) sc_law.nd rfl (by first | exact Or.inl rfl | exact Or.inr rfl) (pe_call G__law_bad_edits hr3 rfl g__law_bad_edits k__law_bad_edits b__law_bad_edits .nil pass0 (pa_cons (pv 2) (pa_cons (pv 1) pa_nil))))
      (pss_cons (ps_if (PW.pt (pw_or (pt_cmpR op_notBl (pe_call G_is_edits hr5 rfl g_is_edits k_is_edits b_is_edits .nil pass0 (pa_cons (pv 6) pa_nil)) pe_bl (nomark _)) (pw_or1 (pt_cmpR op_notBl (pe_call G_is_edits hr5 rfl g_is_edits k_is_edits b_is_edits .nil pass0 (pa_cons (pv 1) pa_nil)) pe_bl (nomark _))))) (pss_one (ps_ret pe_bl)) pss_nil)
      (pss_one (ps_for PassesOwn.never rfl (pi_range1 (by rfl) bI_range (pa_cons pe_int pa_nil)) (pg_name (i := 7) sc_law.nd rfl (by first | exact Or.inl rfl | exact Or.inr rfl)) (pss_one (ps_if (pt_cmpR op_ne (pe_call G__law_kind hr9 rfl g__law_kind k__law_kind b__law_kind .nil pass0 (pa_cons (pv 7) (pa_cons (pv 6) (pa_cons (pv 1) (pa_cons (pe_ix (r := rIxL K) ix_list (pe_lst (pa_cons (pv 4) (pa_cons (pe_tup (pa_cons pe_int (pa_cons pe_int pa_nil))) pa_nil))) (pe_call G__law_digit hr1 rfl g__law_digit k__law_digit b__law_digit .nil pass0 (pa_cons (pv 2) (pa_cons pe_int pa_nil))) (fun _ _ => rfl)) pa_nil))))) pe_str (nomark _)) (pss_one (ps_ret pe_bl)) pss_nil)))))))
      (pss_cons (ps_if (pt_cmpR op_ne (pe_call G__law_kind hr9 rfl g__law_kind k__law_kind b__law_kind .nil pass0 (pa_cons pe_int (pa_cons (pv 1) (pa_cons (pv 1) (pa_cons (pv 4) pa_nil))))) pe_str (nomark _)) (pss_one (ps_ret pe_bl)) pss_nil)
      (pss_cons (ps_set (i := 8) sc_law.nd rfl (by first | exact Or.inl rfl | exact Or.inr rfl) (pe_call G__law_amount hr3 rfl g__law_amount k__law_amount b__law_amount .nil pass0 (pa_cons (pv 2) pa_nil)))
      (pss_cons (ps_set (i := 9) sc_law.nd rfl (by first | exact Or.inl rfl | exact Or.inr rfl) (pe_call G__law_plus hr3 rfl g__law_plus k__law_plus b__law_plus .nil pass0 (pa_cons (pv 8) (pa_cons (pe_call G__law_amount hr3 rfl g__law_amount k__law_amount b__law_amount .nil pass0 (pa_cons (pv 2) pa_nil)) pa_nil))))
      (pss_cons (ps_for PassesOwn.never rfl (pi_range1 (by rfl) bI_range (pa_cons pe_int pa_nil)) (pg_name (i := 7) sc_law.nd rfl (by first | exact Or.inl rfl | exact Or.inr rfl)) (pss_one (ps_for PassesOwn.never rfl (pi_list (pe_lst (pa_cons (pe_tup (pa_cons (pv 4) (pa_cons (pv 9) pa_nil))) (pa_cons (pe_tup (pa_cons (pv 8) (pa_cons (pv 4) pa_nil))) (pa_cons (pe_tup (pa_cons (pv 4) (pa_cons (pv 4) pa_nil))) (pa_cons (pe_tup (pa_cons (pv 9) (pa_cons (pv 8) pa_nil))) (pa_cons (pe_tup (pa_cons (pv 8) (pa_cons (pv 8) pa_nil))) pa_nil))))))) (pg_tupK (K := K) (n := 2) rfl rfl (pgs_cons (pg_name (i := 10) sc_law.nd rfl (by first | exact Or.inl rfl | exact Or.inr rfl)) (pgs_cons (pg_name (i := 11) sc_law.nd rfl (by first | exact Or.inl rfl | exact Or.inr rfl)) pgs_nil))) (pss_one (ps_if (pt_cmpR op_ne (pe_call G__law_stretch_kind hr8 rfl g__law_stretch_kind k__law_stretch_kind b__law_stretch_kind .nil pass0 (pa_cons (pv 7) (pa_cons (pv 1) (pa_cons (pv 10) (pa_cons (pv 11) pa_nil))))) pe_str (nomark _)) (pss_one (ps_ret pe_bl)) pss_nil)))))
      (pss_one (ps_ret (pe_cmpR (r := rEqD K) (op_eqD hu64) (pe_tup (pa_cons (pe_call G_tidy hr7 rfl g_tidy k_tidy b_tidy .nil passL (pa_cons (pv 1) pa_nil)) (pa_cons (pe_call G_total hr7 rfl g_total k_total b_total .nil passL (pa_cons (pv 1) pa_nil)) pa_nil))) (pv 3) (nomark _))))))))))))), ?_⟩
    unfold m_law at P
    have st := Stp.refl (W := []) w
    refine h_set ?_
    refine h_call ?_
    refine h_cons ?_
    refine h_lst ?_
    refine h_cons ?_
    refine h_call ?_
    refine h_cons ?_
    refine h_var rfl ?_
    refine h_cons ?_
    refine h_c ?_
    refine h_nil ?_
    refine ⟨B0, v_script, a_script, 0, w, rfl, ((r_script.step st).w sub0), (P.bind).mono (fun x1 P => ?_) (fun _ z => z)⟩
    refine fun v5 B2 H3 s4 r6 => ?_
    replace st := st.go s4 go0
    replace w := s4.ok
    cases r6
    refine h_nil ?_
    refine h_newM w (ds := (([x1] : List Int)).map enc) (K := K) (.cons (Rep.int _) .nil) (fun p7 H8 hn11 s9 m10 => ?_) (by show 1 ≤ sizeLine; decide)
    have n12 := st.nn hn11
    replace st := st.go s9 go0
    replace w := s9.ok
    refine h_cons ?_
    refine h_c ?_
    refine h_nil ?_
    refine ⟨B2, p7, ([x1] : List Int), 7, w, rfl, m10, (P.bind).mono (fun x13 P => ?_) (fun _ z => z)⟩
    refine fun v17 B14 H15 s16 m10 r18 => ?_
    replace st := st.go s16 (go1 (.inr n12))
    replace w := s16.ok
    refine h_set ?_
    refine h_lst ?_
    refine h_cons ?_
    refine h_call ?_
    refine h_cons ?_
    refine h_var rfl ?_
    refine h_cons ?_
    refine h_c ?_
    refine h_nil ?_
    refine ⟨B14, v_script, a_script, 1, w, rfl, ((r_script.step st).w sub0), (P.bind).mono (fun x19 P => ?_) (fun _ z => z)⟩
    refine fun v23 B20 H21 s22 r24 => ?_
    replace r18 := r18.mono s22.ex
    replace st := st.go s22 go0
    replace w := s22.ok
    cases r24
    refine h_nil ?_
    refine h_newM w (ds := (([x19] : List Int)).map enc) (K := K) (.cons (Rep.int _) .nil) (fun p25 H26 hn29 s27 m28 => ?_) (by show 1 ≤ sizeLine; decide)
    have n30 := st.nn hn29
    replace r18 := r18.mono s27.ex
    replace st := st.go s27 go0
    replace w := s27.ok
    refine h_set ?_
    refine h_tup ?_
    refine h_cons ?_
    refine h_call ?_
    refine h_cons ?_
    refine h_var rfl ?_
    refine h_nil ?_
    refine ⟨B20, v17, x13.1, w, rfl, r18, (P.bind.noErr).mono (fun x31 P => ?_) (fun _ z => z.elim)⟩
    refine fun p37 B32 H33 s34 hn38 m39 => ?_
    have n41 := st.nn hn38
    have ne42 := Mu.ne m28 hn38
    replace r18 := r18.mono s34.ex
    replace m28 := m28.step s34 nm0
    replace st := st.go s34 go0
    replace w := s34.ok
    obtain ⟨B47, e43, k44, g45, r46⟩ := Mu.keep m39
    replace st := g45 _ _ _ st w0 n41
    replace r18 := r18.mono e43
    replace m28 := m28.kp e43 k44 ne42
    replace w := st.ok
    replace r46 : Rep K B47 (.ref p37) (enc x31) := r46
    refine h_cons ?_
    refine h_call ?_
    refine h_cons ?_
    refine h_var rfl ?_
    refine h_nil ?_
    refine ⟨B47, v17, x13.1, w, rfl, r18, (P.bind.noErr).mono (fun x48 P => ?_) (fun _ z => z.elim)⟩
    refine fun v52 B49 H50 s51 r53 => ?_
    replace r18 := r18.mono s51.ex
    replace m28 := m28.step s51 nm0
    replace r46 := r46.mono s51.ex
    replace st := st.go s51 go0
    replace w := s51.ok
    refine h_nil ?_
    refine h_newT w (K := K) (.cons r46 (.cons r53 .nil)) (fun p54 B55 H56 s57 r58 => ?_) (by show 2 ≤ sizeLine; decide)
    replace r18 := r18.mono s57.ex
    replace m28 := m28.step s57 nm0
    replace st := st.go s57 go0
    replace w := s57.ok
    replace r58 : Rep K B55 (.ref p54) (enc (⟨x31, x48⟩ : (Tp2 (List (Tp3 (Tp2 Int Int) (Option (Tp2 Int Int)) (Tp2 Int Int))) (Tp2 Int Int)))) := r58
    refine h_set ?_
    refine h_op ?_
    refine h_lst ?_
    refine h_cons ?_
    refine h_c ?_
    refine h_cons ?_
    refine h_c ?_
    refine h_cons ?_
    refine h_c ?_
    refine h_cons ?_
    refine h_c ?_
    refine h_cons ?_
    refine h_tup ?_
    refine h_cons ?_
    refine h_un ?_
    refine h_c ?_
    refine h_U ?_
    refine h_cons ?_
    refine h_c ?_
    refine h_nil ?_
    refine h_newT w (K := K) (.cons (Rep.int _) (.cons (Rep.int _) .nil)) (fun p59 B60 H61 s62 r63 => ?_) (by show 2 ≤ sizeLine; decide)
    replace r18 := r18.mono s62.ex
    replace m28 := m28.step s62 nm0
    replace r58 := r58.mono s62.ex
    replace st := st.go s62 go0
    replace w := s62.ok
    replace r63 : Rep K B60 (.ref p59) (enc (⟨(-1), 2⟩ : (Tp2 Int Int))) := r63
    refine h_cons ?_
    refine h_tup ?_
    refine h_cons ?_
    refine h_c ?_
    refine h_cons ?_
    refine h_c ?_
    refine h_nil ?_
    refine h_newT w (K := K) (.cons (Rep.int _) (.cons (Rep.int _) .nil)) (fun p64 B65 H66 s67 r68 => ?_) (by show 2 ≤ sizeLine; decide)
    replace r18 := r18.mono s67.ex
    replace m28 := m28.step s67 nm0
    replace r58 := r58.mono s67.ex
    replace r63 := r63.mono s67.ex
    replace st := st.go s67 go0
    replace w := s67.ok
    replace r68 : Rep K B65 (.ref p64) (enc (⟨2, 2⟩ : (Tp2 Int Int))) := r68
    refine h_cons ?_
    refine h_tup ?_
    refine h_cons ?_
    refine h_c ?_
    refine h_cons ?_
    refine h_c ?_
    refine h_nil ?_
    refine h_newT w (K := K) (.cons (Rep.int _) (.cons (Rep.int _) .nil)) (fun p69 B70 H71 s72 r73 => ?_) (by show 2 ≤ sizeLine; decide)
    replace r18 := r18.mono s72.ex
    replace m28 := m28.step s72 nm0
    replace r58 := r58.mono s72.ex
    replace r63 := r63.mono s72.ex
    replace r68 := r68.mono s72.ex
    replace st := st.go s72 go0
    replace w := s72.ok
    replace r73 : Rep K B70 (.ref p69) (enc (⟨1, 0⟩ : (Tp2 Int Int))) := r73
    refine h_cons ?_
    refine h_tup ?_
    refine h_cons ?_
    refine h_c ?_
    refine h_cons ?_
    refine h_un ?_
    refine h_c ?_
    refine h_U ?_
    refine h_nil ?_
    refine h_newT w (K := K) (.cons (Rep.int _) (.cons (Rep.int _) .nil)) (fun p74 B75 H76 s77 r78 => ?_) (by show 2 ≤ sizeLine; decide)
    replace r18 := r18.mono s77.ex
    replace m28 := m28.step s77 nm0
    replace r58 := r58.mono s77.ex
    replace r63 := r63.mono s77.ex
    replace r68 := r68.mono s77.ex
    replace r73 := r73.mono s77.ex
    replace st := st.go s77 go0
    replace w := s77.ok
    replace r78 : Rep K B75 (.ref p74) (enc (⟨1, (-2)⟩ : (Tp2 Int Int))) := r78
    refine h_cons ?_
    refine h_lst ?_
    refine h_cons ?_
    refine h_c ?_
    refine h_cons ?_
    refine h_c ?_
    refine h_nil ?_
    refine h_newL w (ds := (([1, 1] : List Int)).map enc) (K := K) (.cons (Rep.int _) (.cons (Rep.int _) .nil)) (fun p79 B80 H81 s82 r83 => ?_) (by show 2 ≤ sizeLine; decide)
    replace r18 := r18.mono s82.ex
    replace m28 := m28.step s82 nm0
    replace r58 := r58.mono s82.ex
    replace r63 := r63.mono s82.ex
    replace r68 := r68.mono s82.ex
    replace r73 := r73.mono s82.ex
    replace r78 := r78.mono s82.ex
    replace st := st.go s82 go0
    replace w := s82.ok
    replace r83 : Rep K B80 (.ref p79) (enc ([1, 1] : List Int)) := r83
    refine h_cons ?_
    refine h_tup ?_
    refine h_cons ?_
    refine h_c ?_
    refine h_nil ?_
    refine h_newT w (K := K) (.cons (Rep.int _) .nil) (fun p84 B85 H86 s87 r88 => ?_) (by show 1 ≤ sizeLine; decide)
    replace r18 := r18.mono s87.ex
    replace m28 := m28.step s87 nm0
    replace r58 := r58.mono s87.ex
    replace r63 := r63.mono s87.ex
    replace r68 := r68.mono s87.ex
    replace r73 := r73.mono s87.ex
    replace r78 := r78.mono s87.ex
    replace r83 := r83.mono s87.ex
    replace st := st.go s87 go0
    replace w := s87.ok
    replace r88 : Rep K B85 (.ref p84) (enc (⟨1⟩ : (Tp1 Int))) := r88
    refine h_cons ?_
    refine h_tup ?_
    refine h_cons ?_
    refine h_c ?_
    refine h_cons ?_
    refine h_c ?_
    refine h_nil ?_
    refine h_newT w (K := K) (.cons (Rep.bl _) (.cons (Rep.int _) .nil)) (fun p89 B90 H91 s92 r93 => ?_) (by show 2 ≤ sizeLine; decide)
    replace r18 := r18.mono s92.ex
    replace m28 := m28.step s92 nm0
    replace r58 := r58.mono s92.ex
    replace r63 := r63.mono s92.ex
    replace r68 := r68.mono s92.ex
    replace r73 := r73.mono s92.ex
    replace r78 := r78.mono s92.ex
    replace r83 := r83.mono s92.ex
    replace r88 := r88.mono s92.ex
    replace st := st.go s92 go0
    replace w := s92.ok
    replace r93 : Rep K B90 (.ref p89) (enc (⟨true, 1⟩ : (Tp2 Bool Int))) := r93
    refine h_cons ?_
    refine h_tup ?_
    refine h_cons ?_
    refine h_c ?_
    refine h_cons ?_
    refine h_c ?_
    refine h_nil ?_
    refine h_newT w (K := K) (.cons (Rep.int _) (.cons (Rep.int _) .nil)) (fun p94 B95 H96 s97 r98 => ?_) (by show 2 ≤ sizeLine; decide)
    replace r18 := r18.mono s97.ex
    replace m28 := m28.step s97 nm0
    replace r58 := r58.mono s97.ex
    replace r63 := r63.mono s97.ex
    replace r68 := r68.mono s97.ex
    replace r73 := r73.mono s97.ex
    replace r78 := r78.mono s97.ex
    replace r83 := r83.mono s97.ex
    replace r88 := r88.mono s97.ex
    replace r93 := r93.mono s97.ex
    replace st := st.go s97 go0
    replace w := s97.ok
    replace r98 : Rep K B95 (.ref p94) (enc (⟨0, 2⟩ : (Tp2 Int Int))) := r98
    refine h_nil ?_
    refine h_newL w (ds := (([(enc ()), (enc (0 : Int)), (enc true), (enc ("1" : Str)), (enc (⟨(-1), 2⟩ : (Tp2 Int Int))), (enc (⟨2, 2⟩ : (Tp2 Int Int))), (enc (⟨1, 0⟩ : (Tp2 Int Int))), (enc (⟨1, (-2)⟩ : (Tp2 Int Int))), (enc ([1, 1] : List Int)), (enc (⟨1⟩ : (Tp1 Int))), (enc (⟨true, 1⟩ : (Tp2 Bool Int))), (enc (⟨0, 2⟩ : (Tp2 Int Int)))] : List D)).map enc) (K := K) (.cons Rep.non (.cons (Rep.int _) (.cons (Rep.bl _) (.cons (Rep.str _) (.cons r63 (.cons r68 (.cons r73 (.cons r78 (.cons r83 (.cons r88 (.cons r93 (.cons r98 .nil)))))))))))) (fun p99 B100 H101 s102 r103 => ?_) (by show 12 ≤ sizeLine; decide)
    replace r18 := r18.mono s102.ex
    replace m28 := m28.step s102 nm0
    replace r58 := r58.mono s102.ex
    replace st := st.go s102 go0
    replace w := s102.ok
    replace r103 : Rep K B100 (.ref p99) (enc ([(enc ()), (enc (0 : Int)), (enc true), (enc ("1" : Str)), (enc (⟨(-1), 2⟩ : (Tp2 Int Int))), (enc (⟨2, 2⟩ : (Tp2 Int Int))), (enc (⟨1, 0⟩ : (Tp2 Int Int))), (enc (⟨1, (-2)⟩ : (Tp2 Int Int))), (enc ([1, 1] : List Int)), (enc (⟨1⟩ : (Tp1 Int))), (enc (⟨true, 1⟩ : (Tp2 Bool Int))), (enc (⟨0, 2⟩ : (Tp2 Int Int)))] : List D)) := r103
    refine h_call ?_
    refine h_cons ?_
    refine h_var rfl ?_
    refine h_cons ?_
    refine h_c ?_
    refine h_nil ?_
    refine ⟨B100, p25, ([x19] : List Int), 12, w, rfl, m28, (P.bind).mono (fun x104 P => ?_) (fun _ z => z)⟩
    refine fun v108 B105 H106 s107 m28 r109 => ?_
    replace r18 := r18.mono s107.ex
    replace r58 := r58.mono s107.ex
    replace r103 := r103.mono s107.ex
    replace st := st.go s107 (go1 (.inr n30))
    replace w := s107.ok
    cases r109
    obtain ⟨p110, xs111, hv, hs112, hr113⟩ := Rep.sq w r103
    cases hv
    obtain ⟨x114, hx115, P⟩ := P.ix
    obtain ⟨u116, hu, r117⟩ := RepL.atE hr113 hx115
    refine h_ixL hs112 hu ?_
    refine h_seq ?_
    refine h_rng1 ?_
    refine h_cons ?_
    refine h_c ?_
    refine h_nil ?_
    have gz118 : (-(2 ^ 62) ≤ (6 : Int) ∧ (6 : Int) < 2 ^ 62) := by decide
    have wj120 := w
    have sj119 := Stp.refl (W := [p25]) w
    refine h_forR1 P gz118 (fun (a : (List Int)) σ' H' => ∃ (B' : Hp) (o__law_bad : Option V) (o__law_way : Option V) (o__law_k : Option V), Stp [p25] B105 H106 B' H' ∧ σ' = [some (v_script), some (v17), some ((.ref p25)), some ((.ref p54)), some (u116), o__law_k, o__law_bad, o__law_way, none, none, none, none] ∧ Mu K B' H' p25 (a.map enc)) ⟨_, _, _, _, sj119, rfl, m28⟩ ?_ ?_
    · rintro N121 T122 x127 a126 _ H131 ⟨B130, o133, o134, o135, s132, rfl, m28⟩ hlox127 hhix127 kk123 kr124 kb125 P
      replace r18 := r18.mono s132.ex
      replace r58 := r58.mono s132.ex
      replace r117 := r117.mono s132.ex
      replace st := st.go s132 (go1 (.inr n30))
      replace w := s132.ok
      have sj119 := s132
      refine h_gname ?_
      refine h_set ?_
      refine h_call ?_
      refine h_cons ?_
      refine h_var rfl ?_
      refine h_cons ?_
      refine h_var rfl ?_
      refine h_nil ?_
      refine ⟨B130, p25, a126, v17, x13.1, w, rfl, m28, r18, (P.bind).mono (fun x136 P => ?_) (fun _ z => z)⟩
      refine fun v140 B137 H138 s139 m28 r141 => ?_
      replace r18 := r18.mono s139.ex
      replace r58 := r58.mono s139.ex
      replace r117 := r117.mono s139.ex
      replace st := st.go s139 (go1 (.inr n30))
      replace sj119 := sj119.go s139 (go1 (.inl (by simp)))
      replace w := s139.ok
      refine h_seq <| h_if ?_
      refine h_tor ?_
      refine h_test ?_
      refine h_op ?_
      refine h_call ?_
      refine h_cons ?_
      refine h_var rfl ?_
      refine h_nil ?_
      refine ⟨B137, v140, x136.1, w, rfl, r141, (P.bind).mono (fun x142 P => ?_) (fun _ z => z)⟩
      refine fun v146 B143 H144 s145 r147 => ?_
      replace r18 := r18.mono s145.ex
      replace m28 := m28.step s145 nm0
      replace r58 := r58.mono s145.ex
      replace r117 := r117.mono s145.ex
      replace r141 := r141.mono s145.ex
      replace st := st.go s145 go0
      replace sj119 := sj119.go s145 go0
      replace w := s145.ok
      cases r147
      refine h_c ?_
      refine h_isnotB ?_
      refine h_bl ?_
      refine h_ite (fun c1 => ?_) (fun c1 => ?_)
      · replace P := P.iteT c1
        refine h_iteT ?_
        refine h_ret ?_
        refine h_c ?_
        exact (kr124 _ P.ok) _ _ _ st (Rep.bl _)
      · replace P := P.iteF c1
        refine h_test ?_
        refine h_op ?_
        refine h_call ?_
        refine h_cons ?_
        refine h_var rfl ?_
        refine h_nil ?_
        refine ⟨B143, v17, (enc x13.1), w, rfl, r18, (P.bind).mono (fun x148 P => ?_) (fun _ z => z)⟩
        refine fun v152 B149 H150 s151 r153 => ?_
        replace r18 := r18.mono s151.ex
        replace m28 := m28.step s151 nm0
        replace r58 := r58.mono s151.ex
        replace r117 := r117.mono s151.ex
        replace r141 := r141.mono s151.ex
        replace st := st.go s151 go0
        replace sj119 := sj119.go s151 go0
        replace w := s151.ok
        cases r153
        refine h_c ?_
        refine h_isnotB ?_
        refine h_bl ?_
        refine h_ite (fun c1 => ?_) (fun c1 => ?_)
        · replace P := P.iteT c1
          refine h_ret ?_
          refine h_c ?_
          exact (kr124 _ P.ok) _ _ _ st (Rep.bl _)
        · replace P := P.iteF c1
          refine h_next ?_
          refine h_nx ?_
          refine h_rng1 ?_
          refine h_cons ?_
          refine h_c ?_
          refine h_nil ?_
          have gz154 : (-(2 ^ 62) ≤ (11 : Int) ∧ (11 : Int) < 2 ^ 62) := by decide
          have wj156 := w
          have sj155 := Stp.refl (W := [p25]) w
          refine h_forR1 P gz154 (fun (a : (List Int)) σ' H' => ∃ (B' : Hp) (o__law_way : Option V), Stp [p25] B149 H150 B' H' ∧ σ' = [some (v_script), some (v17), some ((.ref p25)), some ((.ref p54)), some (u116), some (.int x127), some (v140), o__law_way, none, none, none, none] ∧ Mu K B' H' p25 (a.map enc)) ⟨_, _, sj155, rfl, m28⟩ ?_ ?_
          · rintro N157 T158 x163 a162 _ H167 ⟨B166, o169, s168, rfl, m28⟩ hlox163 hhix163 kk159 kr160 kb161 P
            replace r18 := r18.mono s168.ex
            replace r58 := r58.mono s168.ex
            replace r117 := r117.mono s168.ex
            replace r141 := r141.mono s168.ex
            replace st := st.go s168 (go1 (.inr n30))
            replace sj119 := sj119.go s168 (go1 (.inl (by simp)))
            replace w := s168.ok
            have sj155 := s168
            refine h_gname ?_
            refine h_if ?_
            refine h_test ?_
            refine h_op ?_
            refine h_call ?_
            refine h_cons ?_
            refine h_var rfl ?_
            refine h_cons ?_
            refine h_var rfl ?_
            refine h_cons ?_
            refine h_var rfl ?_
            refine h_cons ?_
            refine h_op ?_
            refine h_lst ?_
            refine h_cons ?_
            refine h_var rfl ?_
            refine h_cons ?_
            refine h_tup ?_
            refine h_cons ?_
            refine h_c ?_
            refine h_cons ?_
            refine h_c ?_
            refine h_nil ?_
            refine h_newT w (K := K) (.cons (Rep.int _) (.cons (Rep.int _) .nil)) (fun p170 B171 H172 s173 r174 => ?_) (by show 2 ≤ sizeLine; decide)
            replace r18 := r18.mono s173.ex
            replace m28 := m28.step s173 nm0
            replace r58 := r58.mono s173.ex
            replace r117 := r117.mono s173.ex
            replace r141 := r141.mono s173.ex
            replace st := st.go s173 go0
            replace sj119 := sj119.go s173 go0
            replace sj155 := sj155.go s173 go0
            replace w := s173.ok
            replace r174 : Rep K B171 (.ref p170) (enc (⟨1, 1⟩ : (Tp2 Int Int))) := r174
            refine h_nil ?_
            refine h_newL w (ds := (([x114, (enc (⟨1, 1⟩ : (Tp2 Int Int)))] : List D)).map enc) (K := K) (.cons r117 (.cons r174 .nil)) (fun p175 B176 H177 s178 r179 => ?_) (by show 2 ≤ sizeLine; decide)
            replace r18 := r18.mono s178.ex
            replace m28 := m28.step s178 nm0
            replace r58 := r58.mono s178.ex
            replace r117 := r117.mono s178.ex
            replace r141 := r141.mono s178.ex
            replace st := st.go s178 go0
            replace sj119 := sj119.go s178 go0
            replace sj155 := sj155.go s178 go0
            replace w := s178.ok
            replace r179 : Rep K B176 (.ref p175) (enc ([x114, (enc (⟨1, 1⟩ : (Tp2 Int Int)))] : List D)) := r179
            refine h_call ?_
            refine h_cons ?_
            refine h_var rfl ?_
            refine h_cons ?_
            refine h_c ?_
            refine h_nil ?_
            refine ⟨B176, p25, a162, 2, w, rfl, m28, (P.bind).mono (fun x180 P => ?_) (fun _ z => z)⟩
            refine fun v184 B181 H182 s183 m28 r185 => ?_
            replace r18 := r18.mono s183.ex
            replace r58 := r58.mono s183.ex
            replace r117 := r117.mono s183.ex
            replace r141 := r141.mono s183.ex
            replace r179 := r179.mono s183.ex
            replace st := st.go s183 (go1 (.inr n30))
            replace sj119 := sj119.go s183 (go1 (.inl (by simp)))
            replace sj155 := sj155.go s183 (go1 (.inl (by simp)))
            replace w := s183.ok
            cases r185
            obtain ⟨p186, xs187, hv, hs188, hr189⟩ := Rep.sq w r179
            cases hv
            obtain ⟨x190, hx191, P⟩ := P.ix
            obtain ⟨u192, hu, r193⟩ := RepL.atE hr189 hx191
            refine h_ixL hs188 hu ?_
            refine h_nil ?_
            refine ⟨B181, x163, v140, x136.1, v17, (enc x13.1), u192, x190, w, rfl, r141, r18, r193, (P.bind).mono (fun x194 P => ?_) (fun _ z => z)⟩
            refine fun v198 B195 H196 s197 r199 => ?_
            replace r18 := r18.mono s197.ex
            replace m28 := m28.step s197 nm0
            replace r58 := r58.mono s197.ex
            replace r117 := r117.mono s197.ex
            replace r141 := r141.mono s197.ex
            replace r193 := r193.mono s197.ex
            replace st := st.go s197 go0
            replace sj119 := sj119.go s197 go0
            replace sj155 := sj155.go s197 go0
            replace w := s197.ok
            cases r199
            refine h_c ?_
            refine h_neS ?_
            refine h_bl ?_
            refine h_ite (fun c1 => ?_) (fun c1 => ?_)
            · replace P := P.iteT c1
              refine h_ret ?_
              refine h_c ?_
              exact (kr124 _ (kr160 _ P.ok)) _ _ _ st (Rep.bl _)
            · replace P := P.iteF c1
              refine h_next ?_
              refine h_nx ?_
              exact kk159 x180.2 _ _ ⟨_, _, sj155, rfl, m28⟩ P.ok
          · rintro a200 _ H202 ⟨B201, o204, s203, rfl, m28⟩ P
            replace r18 := r18.mono s203.ex
            replace r58 := r58.mono s203.ex
            replace r117 := r117.mono s203.ex
            replace r141 := r141.mono s203.ex
            replace st := st.go s203 (go1 (.inr n30))
            replace sj119 := sj119.go s203 (go1 (.inl (by simp)))
            replace w := s203.ok
            refine h_nx ?_
            exact kk123 a200 _ _ ⟨_, _, _, _, sj119, rfl, m28⟩ P.ok
    · rintro a205 _ H207 ⟨B206, o209, o210, o211, s208, rfl, m28⟩ P
      replace r18 := r18.mono s208.ex
      replace r58 := r58.mono s208.ex
      replace r117 := r117.mono s208.ex
      replace st := st.go s208 (go1 (.inr n30))
      replace w := s208.ok
      refine h_nx ?_
      refine h_seq <| h_if ?_
      refine h_test ?_
      refine h_op ?_
      refine h_call ?_
      refine h_cons ?_
      refine h_c ?_
      refine h_cons ?_
      refine h_var rfl ?_
      refine h_cons ?_
      refine h_var rfl ?_
      refine h_cons ?_
      refine h_var rfl ?_
      refine h_nil ?_
      refine ⟨B206, 0, v17, (enc x13.1), v17, (enc x13.1), u116, x114, w, rfl, r18, r18, r117, (P.bind).mono (fun x212 P => ?_) (fun _ z => z)⟩
      refine fun v216 B213 H214 s215 r217 => ?_
      replace r18 := r18.mono s215.ex
      replace m28 := m28.step s215 nm0
      replace r58 := r58.mono s215.ex
      replace r117 := r117.mono s215.ex
      replace st := st.go s215 go0
      replace w := s215.ok
      cases r217
      refine h_c ?_
      refine h_neS ?_
      refine h_bl ?_
      refine h_ite (fun c1 => ?_) (fun c1 => ?_)
      · replace P := P.iteT c1
        refine h_ret ?_
        refine h_c ?_
        exact P.ok _ _ _ st (Rep.bl _)
      · replace P := P.iteF c1
        refine h_next ?_
        refine h_nx ?_
        refine h_set ?_
        refine h_call ?_
        refine h_cons ?_
        refine h_var rfl ?_
        refine h_nil ?_
        refine ⟨B213, p25, a205, w, rfl, m28, (P.bind).mono (fun x218 P => ?_) (fun _ z => z)⟩
        refine fun v222 B219 H220 s221 m28 r223 => ?_
        replace r18 := r18.mono s221.ex
        replace r58 := r58.mono s221.ex
        replace r117 := r117.mono s221.ex
        replace st := st.go s221 (go1 (.inr n30))
        replace w := s221.ok
        refine h_set ?_
        refine h_call ?_
        refine h_cons ?_
        refine h_var rfl ?_
        refine h_cons ?_
        refine h_call ?_
        refine h_cons ?_
        refine h_var rfl ?_
        refine h_nil ?_
        refine ⟨B219, p25, x218.2, w, rfl, m28, (P.bind).mono (fun x224 P => ?_) (fun _ z => z)⟩
        refine fun v228 B225 H226 s227 m28 r229 => ?_
        replace r18 := r18.mono s227.ex
        replace r58 := r58.mono s227.ex
        replace r117 := r117.mono s227.ex
        replace r223 := r223.mono s227.ex
        replace st := st.go s227 (go1 (.inr n30))
        replace w := s227.ok
        refine h_nil ?_
        refine ⟨B225, v222, x218.1, v228, x224.1, w, rfl, r223, r229, (P.bind).mono (fun x230 P => ?_) (fun _ z => z)⟩
        refine fun v234 B231 H232 s233 r235 => ?_
        replace r18 := r18.mono s233.ex
        replace m28 := m28.step s233 nm0
        replace r58 := r58.mono s233.ex
        replace r117 := r117.mono s233.ex
        replace r223 := r223.mono s233.ex
        replace r229 := r229.mono s233.ex
        replace st := st.go s233 go0
        replace w := s233.ok
        refine h_seq ?_
        refine h_rng1 ?_
        refine h_cons ?_
        refine h_c ?_
        refine h_nil ?_
        have gz236 : (-(2 ^ 62) ≤ (2 : Int) ∧ (2 : Int) < 2 ^ 62) := by decide
        have wj238 := w
        have sj237 := Stp.refl (W := []) w
        refine h_forR1 P gz236 (fun (a : Unit) σ' H' => ∃ (B' : Hp) (o__law_one : Option V) (o__law_two : Option V) (o__law_way : Option V), Stp [] B231 H232 B' H' ∧ σ' = [some (v_script), some (v17), some ((.ref p25)), some ((.ref p54)), some (u116), o211, o209, o__law_way, some (v222), some (v234), o__law_one, o__law_two]) ⟨_, _, _, _, sj237, rfl⟩ ?_ ?_
        · rintro N239 T240 x245 a244 _ H249 ⟨B248, o251, o252, o253, s250, rfl⟩ hlox245 hhix245 kk241 kr242 kb243 P
          replace r18 := r18.mono s250.ex
          replace m28 := m28.step s250 nm0
          replace r58 := r58.mono s250.ex
          replace r117 := r117.mono s250.ex
          replace r223 := r223.mono s250.ex
          replace r235 := r235.mono s250.ex
          replace st := st.go s250 go0
          replace w := s250.ok
          have sj237 := s250
          refine h_gname ?_
          refine h_forE ?_
          refine h_lst ?_
          refine h_cons ?_
          refine h_tup ?_
          refine h_cons ?_
          refine h_var rfl ?_
          refine h_cons ?_
          refine h_var rfl ?_
          refine h_nil ?_
          refine h_newT w (K := K) (.cons r117 (.cons r235 .nil)) (fun p254 B255 H256 s257 r258 => ?_) (by show 2 ≤ sizeLine; decide)
          replace r18 := r18.mono s257.ex
          replace m28 := m28.step s257 nm0
          replace r58 := r58.mono s257.ex
          replace r117 := r117.mono s257.ex
          replace r223 := r223.mono s257.ex
          replace r235 := r235.mono s257.ex
          replace st := st.go s257 go0
          replace sj237 := sj237.go s257 go0
          replace w := s257.ok
          replace r258 : Rep K B255 (.ref p254) (enc (⟨x114, x230⟩ : (Tp2 D (Tp2 Int Int)))) := r258
          refine h_cons ?_
          refine h_tup ?_
          refine h_cons ?_
          refine h_var rfl ?_
          refine h_cons ?_
          refine h_var rfl ?_
          refine h_nil ?_
          refine h_newT w (K := K) (.cons r223 (.cons r117 .nil)) (fun p259 B260 H261 s262 r263 => ?_) (by show 2 ≤ sizeLine; decide)
          replace r18 := r18.mono s262.ex
          replace m28 := m28.step s262 nm0
          replace r58 := r58.mono s262.ex
          replace r117 := r117.mono s262.ex
          replace r223 := r223.mono s262.ex
          replace r235 := r235.mono s262.ex
          replace r258 := r258.mono s262.ex
          replace st := st.go s262 go0
          replace sj237 := sj237.go s262 go0
          replace w := s262.ok
          replace r263 : Rep K B260 (.ref p259) (enc (⟨x218.1, x114⟩ : (Tp2 (Tp2 Int Int) D))) := r263
          refine h_cons ?_
          refine h_tup ?_
          refine h_cons ?_
          refine h_var rfl ?_
          refine h_cons ?_
          refine h_var rfl ?_
          refine h_nil ?_
          refine h_newT w (K := K) (.cons r117 (.cons r117 .nil)) (fun p264 B265 H266 s267 r268 => ?_) (by show 2 ≤ sizeLine; decide)
          replace r18 := r18.mono s267.ex
          replace m28 := m28.step s267 nm0
          replace r58 := r58.mono s267.ex
          replace r117 := r117.mono s267.ex
          replace r223 := r223.mono s267.ex
          replace r235 := r235.mono s267.ex
          replace r258 := r258.mono s267.ex
          replace r263 := r263.mono s267.ex
          replace st := st.go s267 go0
          replace sj237 := sj237.go s267 go0
          replace w := s267.ok
          replace r268 : Rep K B265 (.ref p264) (enc (⟨x114, x114⟩ : (Tp2 D D))) := r268
          refine h_cons ?_
          refine h_tup ?_
          refine h_cons ?_
          refine h_var rfl ?_
          refine h_cons ?_
          refine h_var rfl ?_
          refine h_nil ?_
          refine h_newT w (K := K) (.cons r235 (.cons r223 .nil)) (fun p269 B270 H271 s272 r273 => ?_) (by show 2 ≤ sizeLine; decide)
          replace r18 := r18.mono s272.ex
          replace m28 := m28.step s272 nm0
          replace r58 := r58.mono s272.ex
          replace r117 := r117.mono s272.ex
          replace r223 := r223.mono s272.ex
          replace r235 := r235.mono s272.ex
          replace r258 := r258.mono s272.ex
          replace r263 := r263.mono s272.ex
          replace r268 := r268.mono s272.ex
          replace st := st.go s272 go0
          replace sj237 := sj237.go s272 go0
          replace w := s272.ok
          replace r273 : Rep K B270 (.ref p269) (enc (⟨x230, x218.1⟩ : (Tp2 (Tp2 Int Int) (Tp2 Int Int)))) := r273
          refine h_cons ?_
          refine h_tup ?_
          refine h_cons ?_
          refine h_var rfl ?_
          refine h_cons ?_
          refine h_var rfl ?_
          refine h_nil ?_
          refine h_newT w (K := K) (.cons r223 (.cons r223 .nil)) (fun p274 B275 H276 s277 r278 => ?_) (by show 2 ≤ sizeLine; decide)
          replace r18 := r18.mono s277.ex
          replace m28 := m28.step s277 nm0
          replace r58 := r58.mono s277.ex
          replace r117 := r117.mono s277.ex
          replace r223 := r223.mono s277.ex
          replace r235 := r235.mono s277.ex
          replace r258 := r258.mono s277.ex
          replace r263 := r263.mono s277.ex
          replace r268 := r268.mono s277.ex
          replace r273 := r273.mono s277.ex
          replace st := st.go s277 go0
          replace sj237 := sj237.go s277 go0
          replace w := s277.ok
          replace r278 : Rep K B275 (.ref p274) (enc (⟨x218.1, x218.1⟩ : (Tp2 (Tp2 Int Int) (Tp2 Int Int)))) := r278
          refine h_nil ?_
          refine h_newL w (ds := (([(enc (⟨x114, x230⟩ : (Tp2 D (Tp2 Int Int)))), (enc (⟨x218.1, x114⟩ : (Tp2 (Tp2 Int Int) D))), (enc (⟨x114, x114⟩ : (Tp2 D D))), (enc (⟨x230, x218.1⟩ : (Tp2 (Tp2 Int Int) (Tp2 Int Int)))), (enc (⟨x218.1, x218.1⟩ : (Tp2 (Tp2 Int Int) (Tp2 Int Int))))] : List D)).map enc) (K := K) (.cons r258 (.cons r263 (.cons r268 (.cons r273 (.cons r278 .nil))))) (fun p279 B280 H281 s282 r283 => ?_) (by show 5 ≤ sizeLine; decide)
          replace r18 := r18.mono s282.ex
          replace m28 := m28.step s282 nm0
          replace r58 := r58.mono s282.ex
          replace r117 := r117.mono s282.ex
          replace r223 := r223.mono s282.ex
          replace r235 := r235.mono s282.ex
          replace st := st.go s282 go0
          replace sj237 := sj237.go s282 go0
          replace w := s282.ok
          replace r283 : Rep K B280 (.ref p279) (enc ([(enc (⟨x114, x230⟩ : (Tp2 D (Tp2 Int Int)))), (enc (⟨x218.1, x114⟩ : (Tp2 (Tp2 Int Int) D))), (enc (⟨x114, x114⟩ : (Tp2 D D))), (enc (⟨x230, x218.1⟩ : (Tp2 (Tp2 Int Int) (Tp2 Int Int)))), (enc (⟨x218.1, x218.1⟩ : (Tp2 (Tp2 Int Int) (Tp2 Int Int))))] : List D)) := r283
          obtain ⟨p284, xs285, hv, hb286, hr287⟩ := Rep.sqB r283
          cases hv
          have wj289 := w
          have sj288 := Stp.refl (W := []) w
          refine h_forL P (w.l hb286) hr287 (fun (a : Unit) σ' H' => ∃ (B' : Hp) (o__law_one : Option V) (o__law_two : Option V), Stp [] B280 H281 B' H' ∧ σ' = [some (v_script), some (v17), some ((.ref p25)), some ((.ref p54)), some (u116), o211, o209, some (.int x245), some (v222), some (v234), o__law_one, o__law_two]) ⟨_, _, _, sj288, rfl⟩ (fun _ _ _ j => ?_) ?_ ?_
          · obtain ⟨B299, o302, o303, s301, rfl⟩ := j
            exact s301.ok.l (s301.ex.l hb286)
          · rintro N290 T291 x296 v297 a295 _ H300 ⟨B299, o302, o303, s301, rfl⟩ r298 kk292 kr293 kb294 P
            replace r18 := r18.mono s301.ex
            replace m28 := m28.step s301 nm0
            replace r58 := r58.mono s301.ex
            replace r117 := r117.mono s301.ex
            replace r223 := r223.mono s301.ex
            replace r235 := r235.mono s301.ex
            replace st := st.go s301 go0
            replace sj237 := sj237.go s301 go0
            replace w := s301.ok
            have sj288 := s301
            replace r298 := r298.mono sj288.ex
            obtain ⟨l304, hl305, P⟩ := P.asT
            have rc306 := r298
            rw [hl305] at rc306
            obtain ⟨p307, xs308, rfl, hs309, hr310⟩ := Rep.st w rc306
            obtain ⟨gd, P⟩ := P.guard
            refine h_tupG hs309 (by rw [hr310.length, List.length_map]; exact gd) ?_
            obtain ⟨x312, hx313, P⟩ := P.ix
            obtain ⟨u314, huu314, r315⟩ := RepL.atE hr310 hx313
            obtain ⟨x316, hx317, P⟩ := P.ix
            obtain ⟨u318, huu318, r319⟩ := RepL.atE hr310 hx317
            obtain rfl : xs308 = [u314, u318] := tup2 (by rw [hr310.length, List.length_map]; exact gd) huu314 huu318
            refine h_gcons ?_
            refine h_gname ?_
            refine h_gcons ?_
            refine h_gname ?_
            refine h_gnil ?_
            refine h_if ?_
            refine h_test ?_
            refine h_op ?_
            refine h_call ?_
            refine h_cons ?_
            refine h_var rfl ?_
            refine h_cons ?_
            refine h_var rfl ?_
            refine h_cons ?_
            refine h_var rfl ?_
            refine h_cons ?_
            refine h_var rfl ?_
            refine h_nil ?_
            refine ⟨B299, x245, v17, (enc x13.1), u314, x312, u318, x316, w, rfl, r18, r315, r319, (P.bind).mono (fun x320 P => ?_) (fun _ z => z)⟩
            refine fun v324 B321 H322 s323 r325 => ?_
            replace r18 := r18.mono s323.ex
            replace m28 := m28.step s323 nm0
            replace r58 := r58.mono s323.ex
            replace r117 := r117.mono s323.ex
            replace r223 := r223.mono s323.ex
            replace r235 := r235.mono s323.ex
            replace r315 := r315.mono s323.ex
            replace r319 := r319.mono s323.ex
            replace st := st.go s323 go0
            replace sj237 := sj237.go s323 go0
            replace sj288 := sj288.go s323 go0
            replace w := s323.ok
            cases r325
            refine h_c ?_
            refine h_neS ?_
            refine h_bl ?_
            refine h_ite (fun c1 => ?_) (fun c1 => ?_)
            · replace P := P.iteT c1
              refine h_ret ?_
              refine h_c ?_
              exact (kr242 _ (kr293 _ P.ok)) _ _ _ st (Rep.bl _)
            · replace P := P.iteF c1
              refine h_next ?_
              refine h_nx ?_
              exact kk292 () _ _ ⟨_, _, _, sj288, rfl⟩ P.ok
          · rintro a326 _ H328 ⟨B327, o330, o331, s329, rfl⟩ P
            replace r18 := r18.mono s329.ex
            replace m28 := m28.step s329 nm0
            replace r58 := r58.mono s329.ex
            replace r117 := r117.mono s329.ex
            replace r223 := r223.mono s329.ex
            replace r235 := r235.mono s329.ex
            replace st := st.go s329 go0
            replace sj237 := sj237.go s329 go0
            replace w := s329.ok
            refine h_nx ?_
            exact kk241 () _ _ ⟨_, _, _, _, sj237, rfl⟩ P.ok
        · rintro a332 _ H334 ⟨B333, o336, o337, o338, s335, rfl⟩ P
          replace r18 := r18.mono s335.ex
          replace m28 := m28.step s335 nm0
          replace r58 := r58.mono s335.ex
          replace r117 := r117.mono s335.ex
          replace r223 := r223.mono s335.ex
          replace r235 := r235.mono s335.ex
          replace st := st.go s335 go0
          replace w := s335.ok
          refine h_nx ?_
          refine h_ret ?_
          refine h_op ?_
          refine h_tup ?_
          refine h_cons ?_
          refine h_call ?_
          refine h_cons ?_
          refine h_var rfl ?_
          refine h_nil ?_
          refine ⟨B333, v17, x13.1, w, rfl, r18, (P.bind.noErr).mono (fun x339 P => ?_) (fun _ z => z.elim)⟩
          refine fun p345 B340 H341 s342 hn346 m347 => ?_
          have n349 := st.nn hn346
          have ne350 := Mu.ne m28 hn346
          replace r18 := r18.mono s342.ex
          replace m28 := m28.step s342 nm0
          replace r58 := r58.mono s342.ex
          replace r117 := r117.mono s342.ex
          replace r223 := r223.mono s342.ex
          replace r235 := r235.mono s342.ex
          replace st := st.go s342 go0
          replace w := s342.ok
          obtain ⟨B355, e351, k352, g353, r354⟩ := Mu.keep m347
          replace st := g353 _ _ _ st w0 n349
          replace r18 := r18.mono e351
          replace m28 := m28.kp e351 k352 ne350
          replace r58 := r58.mono e351
          replace r117 := r117.mono e351
          replace r223 := r223.mono e351
          replace r235 := r235.mono e351
          replace w := st.ok
          replace r354 : Rep K B355 (.ref p345) (enc x339) := r354
          refine h_cons ?_
          refine h_call ?_
          refine h_cons ?_
          refine h_var rfl ?_
          refine h_nil ?_
          refine ⟨B355, v17, x13.1, w, rfl, r18, (P.bind.noErr).mono (fun x356 P => ?_) (fun _ z => z.elim)⟩
          refine fun v360 B357 H358 s359 r361 => ?_
          replace r18 := r18.mono s359.ex
          replace m28 := m28.step s359 nm0
          replace r58 := r58.mono s359.ex
          replace r117 := r117.mono s359.ex
          replace r223 := r223.mono s359.ex
          replace r235 := r235.mono s359.ex
          replace r354 := r354.mono s359.ex
          replace st := st.go s359 go0
          replace w := s359.ok
          refine h_nil ?_
          refine h_newT w (K := K) (.cons r354 (.cons r361 .nil)) (fun p362 B363 H364 s365 r366 => ?_) (by show 2 ≤ sizeLine; decide)
          replace r18 := r18.mono s365.ex
          replace m28 := m28.step s365 nm0
          replace r58 := r58.mono s365.ex
          replace r117 := r117.mono s365.ex
          replace r223 := r223.mono s365.ex
          replace r235 := r235.mono s365.ex
          replace st := st.go s365 go0
          replace w := s365.ok
          replace r366 : Rep K B363 (.ref p362) (enc (⟨x339, x356⟩ : (Tp2 (List (Tp3 (Tp2 Int Int) (Option (Tp2 Int Int)) (Tp2 Int Int))) (Tp2 Int Int)))) := r366
          refine h_var rfl ?_
          obtain ⟨gd, P⟩ := P.guard
          refine h_eqD (d := (enc (⟨x339, x356⟩ : (Tp2 (List (Tp3 (Tp2 Int Int) (Option (Tp2 Int Int)) (Tp2 Int Int))) (Tp2 Int Int))))) (e := (enc (⟨x31, x48⟩ : (Tp2 (List (Tp3 (Tp2 Int Int) (Option (Tp2 Int Int)) (Tp2 Int Int))) (Tp2 Int Int))))) w r366 r58 gd ?_
          exact P.ok _ _ _ st (Rep.bl _)
end
end A
set_option Elab.async false
set_option linter.all false
set_option maxRecDepth 100000
set_option maxHeartbeats 2000000
namespace Y
open PySem PySem.Spec PyProof.Rows L2
open Enc (enc)
/-! # plain mathematics over mirrors -/
/-- m gives a value, and φ of it -/
def Ok {α : Type} (m : Res α) (φ : α → Prop) : Prop := ∃ a, m = .ok a ∧ φ a
section
variable {α β : Type} {m : Res α} {φ φ' : α → Prop} {k : α → Res β} {ψ : β → Prop} {a : α} {c : Bool} {i : Int} {l : List α}
theorem Ok.pure (h : φ a) : Ok (.ok a) φ := ⟨a, rfl, h⟩
theorem Ok.bind (h : Ok m φ) (hk : ∀ a, φ a → Ok (k a) ψ) : Ok (m.bind k) ψ := by
  obtain ⟨a, e, p⟩ := h
  rw [e]
  exact hk a p
theorem Ok.bindE (e : m = .ok a) (h : Ok (k a) ψ) : Ok (m.bind k) ψ := by rw [e]; exact h
theorem Ok.mono (h : Ok m φ) (hk : ∀ a, φ a → φ' a) : Ok m φ' := by
  obtain ⟨a, e, p⟩ := h
  exact ⟨a, e, hk a p⟩
theorem Ok.ite {m m' : Res α} (h1 : c = true → Ok m φ) (h2 : c = false → Ok m' φ) : Ok (if c = true then m else m') φ := by
  cases c
  · rw [if_neg Bool.false_ne_true]; exact h2 rfl
  · rw [if_pos rfl]; exact h1 rfl
theorem Ok.iteT {m m' : Res α} (hc : c = true) (h : Ok m φ) : Ok (if c = true then m else m') φ := by
  rw [if_pos hc]; exact h
theorem Ok.iteF {m m' : Res α} (hc : c = false) (h : Ok m' φ) : Ok (if c = true then m else m') φ := by
  rw [hc, if_neg Bool.false_ne_true]; exact h
theorem Ok.guard {p : Prop} [Decidable p] (hp : p) (h : Ok m φ) : Ok (guardR p m) φ := by
  unfold guardR; rw [if_pos hp]; exact h
theorem Ok.lt {d : α} (h : Ok (k d) ψ) : Ok (Y.lt d k) ψ := h
theorem Ok.noErr (h : Ok m φ) : Ok m.noErr φ := by
  obtain ⟨a, e, p⟩ := h
  exact ⟨a, by rw [e]; rfl, p⟩
theorem atI_in (h0 : 0 ≤ i) (h1 : i < (l.length : Int)) : ∃ x, atI l i = some x ∧ l[i.toNat]? = some x ∧ x ∈ l := by
  have h2 : i.toNat < l.length := by omega
  have e : ixN l.length i = some i.toNat := by unfold ixN; rw [if_pos h0, if_pos h1]
  refine ⟨l[i.toNat], ?_, List.getElem?_eq_getElem h2, List.getElem_mem h2⟩
  unfold atI
  rw [e]
  exact List.getElem?_eq_getElem h2
theorem Ok.ix (h0 : 0 ≤ i) (h1 : i < (l.length : Int)) (h : ∀ x, x ∈ l → l[i.toNat]? = some x → Ok (k x) ψ) : Ok ((ixR l i).bind k) ψ := by
  obtain ⟨x, e, e2, m⟩ := atI_in h0 h1
  unfold ixR
  rw [e]
  exact h x m e2
theorem Ok.ixs {x : α} (e : ixR l i = .ok x) (h : Ok (k x) ψ) : Ok ((ixR l i).bind k) ψ := by rw [e]; exact h
/-- an item of a written list -/
theorem Ok.ixm (h0 : 0 ≤ i) (h1 : i < (l.length : Int)) (h : ∀ x, x ∈ l → Ok (k x) ψ) : Ok ((ixR l i).bind k) ψ := Ok.ix h0 h1 fun x m _ => h x m
/-- a loop that keeps I and ends by itself -/
theorem Ok.for {S R : Type} {f : α → S → Res (Fl S R)} (I : S → Prop) (hf : ∀ x s, x ∈ l → I s → Ok (f x s) fun r => ∃ s', r = .nx s' ∧ I s') : ∀ {s : S}, I s → Ok (forR l s f) fun r => ∃ s', r = .nx s' ∧ I s' := by
  induction l with
  | nil => intro s h; exact ⟨_, rfl, s, rfl, h⟩
  | cons x xs ih =>
    intro s h
    refine Ok.bind (hf x s List.mem_cons_self h) ?_
    rintro r ⟨s', rfl, h'⟩
    exact ih (fun y s m h => hf y s (List.mem_cons_of_mem _ m) h) h'
/-- a comprehension: each turn gives a good thing and keeps I -/
theorem Ok.compL {S R : Type} {f : α → S → Res (Option R × S)} (I : S → Prop) (G : R → Prop) (hf : ∀ x s, x ∈ l → I s → Ok (f x s) fun r => I r.2 ∧ ∀ b, r.1 = some b → G b) : ∀ {s : S}, I s → Ok (compL l s f) fun r => I r.2 ∧ ∀ b ∈ r.1, G b := by
  induction l with
  | nil => intro s h; exact ⟨_, rfl, h, fun _ m => nomatch m⟩
  | cons x xs ih =>
    intro s h
    refine Ok.bind (hf x s List.mem_cons_self h) ?_
    rintro ⟨o, s'⟩ ⟨h', g⟩
    refine Ok.bind (ih (fun y s m h => hf y s (List.mem_cons_of_mem _ m) h) h') ?_
    rintro ⟨bs, s2⟩ ⟨h2, g2⟩
    refine ⟨_, rfl, h2, fun b m => ?_⟩
    cases o with
    | none => exact g2 b m
    | some b0 =>
      rcases List.mem_cons.mp m with e | m
      · rw [e]; exact g b0 rfl
      · exact g2 b m
theorem Ok.comp {S R : Type} {f : α → S → Res (Option R × S)} {s : S} (hl : l.length ≤ 1000000) (I : S → Prop) (G : R → Prop) (hf : ∀ x s, x ∈ l → I s → Ok (f x s) fun r => I r.2 ∧ ∀ b, r.1 = some b → G b) (h : I s) : Ok (compR l s f) fun r => I r.2 ∧ ∀ b ∈ r.1, G b := Ok.guard hl (Ok.compL I G hf h)
/-- .. and no more things than turns -/
theorem Ok.compLen {S R : Type} {f : α → S → Res (Option R × S)} {s : S} (hl : l.length ≤ 1000000) (I : S → Prop) (G : R → Prop) (hf : ∀ x s, x ∈ l → I s → Ok (f x s) fun r => I r.2 ∧ ∀ b, r.1 = some b → G b) (h : I s) : Ok (compR l s f) fun r => I r.2 ∧ (∀ b ∈ r.1, G b) ∧ r.1.length ≤ l.length := by
  refine Ok.guard hl ?_
  clear hl
  induction l generalizing s with
  | nil => exact ⟨_, rfl, h, (fun _ m => nomatch m), Nat.le_refl _⟩
  | cons x xs ih =>
    refine Ok.bind (hf x s List.mem_cons_self h) ?_
    rintro ⟨o, s'⟩ ⟨h', g⟩
    refine Ok.bind (ih (fun y s m h => hf y s (List.mem_cons_of_mem _ m) h) h') ?_
    rintro ⟨bs, s2⟩ ⟨h2, g2, g3⟩
    refine ⟨_, rfl, h2, fun b m => ?_, ?_⟩
    · cases o with
      | none => exact g2 b m
      | some b0 =>
        rcases List.mem_cons.mp m with e | m
        · rw [e]; exact g b0 rfl
        · exact g2 b m
    · cases o with
      | none => exact Nat.le_succ_of_le g3
      | some b0 => exact Nat.succ_le_succ g3
end
theorem log2_small {n b : Nat} (h : n < 2 ^ b) (h0 : 0 < b) : n.log2 < b := PySem.Flt.log2_lt_of h0 h
theorem mulW {i j : Int} {a b : Nat} (ha : i.natAbs < 2 ^ a) (hb : j.natAbs < 2 ^ b) (h0 : 0 < a := by decide) (h1 : 0 < b := by decide) (h : a + b ≤ 1000000 := by decide) : CMulW i j := wide_mul ha hb h0 h1 h
theorem divW {i j : Int} {b : Nat} (h : 0 < j) (hb : j.natAbs < 2 ^ b) (h0 : 0 < b := by decide) (h9 : b ≤ 9000 := by decide) : CDivW i j := wide_div h hb h0 h9
theorem cutL_mem {α : Type} {l : List α} {lo hi : Option Int} {x : α} (h : x ∈ cutL l lo hi) : x ∈ l := List.mem_of_mem_drop (List.mem_of_mem_take h)
theorem cutL_len {α : Type} {l : List α} {lo hi : Option Int} : (cutL l lo hi).length ≤ l.length := by
  unfold cutL
  rw [List.length_take, List.length_drop]
  omega
mutual
theorem eqv_refl : ∀ d : D, flatD d = true → PyData.eqv (pyD d) (pyD d) = true
  | .non, _ => rfl
  | .bl b, _ => by show (b == b) = true; simp
  | .int i, _ => by show (i == i) = true; simp
  | .str x, _ => by show (x == x) = true; simp
  | .lst ds, h => eqvs_refl ds h
  | .tup ds, h => eqvs_refl ds h
  | .dic _, h => nomatch h
  | .obj _ _, h => nomatch h
theorem eqvs_refl : ∀ ds : List D, flatDs ds = true → PyData.eqvAll (pyDs ds) (pyDs ds) = true
  | [], _ => rfl
  | d :: ds, h => by
    have h' : (flatD d && flatDs ds) = true := h
    rw [Bool.and_eq_true] at h'
    show (PyData.eqv (pyD d) (pyD d) && PyData.eqvAll (pyDs ds) (pyDs ds)) = true
    rw [eqv_refl d h'.1, eqvs_refl ds h'.2]
    rfl
end
theorem eqD_refl {d : D} (h : flatD d = true) : eqD d d = true := eqv_refl d h
theorem flat_ints : ∀ l : List Int, flatDs (l.map enc) = true
  | [] => rfl
  | i :: l => by show (flatD (.int i) && flatDs (l.map enc)) = true; rw [flat_ints l]; rfl

mutual
/-- data that may be compared: no dict, texts plain, not deep -/
def eqOk (n : Nat) : D → Bool
  | .lst ds => match n with | 0 => false | n + 1 => eqOks n ds
  | .tup ds => match n with | 0 => false | n + 1 => eqOks n ds
  | .dic _ => false
  | .obj _ _ => false
  | .str x => PyData.strOk x
  | _ => true
def eqOks (n : Nat) : List D → Bool
  | [] => true
  | d :: ds => eqOk n d && eqOks n ds
end
mutual
theorem eqOk_flat : ∀ (d : D) (n : Nat), eqOk n d = true → flatD d = true ∧ (pyD d).canLay0 = true ∧ (pyD d).depth ≤ n
  | .non, _, _ => ⟨rfl, rfl, Nat.zero_le _⟩
  | .bl _, _, _ => ⟨rfl, rfl, Nat.zero_le _⟩
  | .int _, _, _ => ⟨rfl, rfl, Nat.zero_le _⟩
  | .str _, _, h => ⟨rfl, h, Nat.zero_le _⟩
  | .lst ds, n + 1, h => let ⟨a, b, c⟩ := eqOks_flat ds n h; ⟨a, b, Nat.succ_le_succ c⟩
  | .tup ds, n + 1, h => let ⟨a, b, c⟩ := eqOks_flat ds n h; ⟨a, b, Nat.succ_le_succ c⟩
  | .lst _, 0, h => nomatch h
  | .tup _, 0, h => nomatch h
  | .dic _, _, h => nomatch h
  | .obj _ _, _, h => nomatch h
theorem eqOks_flat : ∀ (ds : List D) (n : Nat), eqOks n ds = true → flatDs ds = true ∧ PyData.canLayAll0 (pyDs ds) = true ∧ PyData.depthAll (pyDs ds) ≤ n
  | [], _, _ => ⟨rfl, rfl, Nat.zero_le _⟩
  | d :: ds, n, h => by
    have h' : (eqOk n d && eqOks n ds) = true := h
    rw [Bool.and_eq_true] at h'
    obtain ⟨a, b, c⟩ := eqOk_flat d n h'.1
    obtain ⟨a', b', c'⟩ := eqOks_flat ds n h'.2
    refine ⟨?_, ?_, ?_⟩
    · show (flatD d && flatDs ds) = true; rw [a, a']; rfl
    · show (PyData.canLay0 (pyD d) && PyData.canLayAll0 (pyDs ds)) = true; rw [b, b']; rfl
    · exact Nat.max_le.mpr ⟨c, c'⟩
end
theorem okEq_of {d e : D} (h : eqOk 20 d = true) (h' : eqOk 20 e = true) : okEq d e := by
  obtain ⟨a, b, c⟩ := eqOk_flat d 20 h
  obtain ⟨a', b', c'⟩ := eqOk_flat e 20 h'
  refine ⟨a, a', ?_, ?_⟩
  · unfold SeqAt.shaped; rw [b, decide_eq_true (Nat.le_trans c (by decide))]; rfl
  · unfold SeqAt.shaped; rw [b', decide_eq_true (Nat.le_trans c' (by decide))]; rfl
theorem eqOk_ints : ∀ (l : List Int) (n : Nat), eqOks n (l.map enc) = true
  | [], _ => rfl
  | i :: l, n => by show (eqOk n (.int i) && eqOks n (l.map enc)) = true; rw [eqOk_ints l n]; rfl
/-- a comprehension without a state whose turns give values -/
theorem compL_map {α β : Type} {f : α → Unit → Res (Option β × Unit)} {g : α → β} : ∀ {l : List α}, (∀ x ∈ l, f x () = .ok (some (g x), ())) → compL l () f = .ok (l.map g, ())
  | [], _ => rfl
  | x :: xs, h => by
    unfold compL
    rw [h x List.mem_cons_self]
    show ((compL xs () f).bind fun q => .ok (g x :: q.1, q.2)) = _
    rw [compL_map fun y m => h y (List.mem_cons_of_mem _ m)]
    rfl
theorem compR_map {α β : Type} {f : α → Unit → Res (Option β × Unit)} {g : α → β} {l : List α} (hl : l.length ≤ 1000000) (h : ∀ x ∈ l, f x () = .ok (some (g x), ())) : compR l () f = .ok (l.map g, ()) := by
  unfold compR guardR
  rw [if_pos hl, compL_map h]
def smallD (d : D) : Prop := match d with | .lst ds => ds.length ≤ 1000000 | _ => True
end Y

set_option Elab.async false
set_option linter.all false
set_option maxRecDepth 100000
set_option maxHeartbeats 2000000
namespace A
open PySem PySem.Spec PyProof.Rows L2 Y
open Y.Enc (enc)
/-- a state of draws -/
def Gd (st : List Int) : Prop := st.length = 1 ∨ st.length = 3
theorem setR_in {α : Type} {l : List α} {i : Int} {x : α} (h0 : 0 ≤ i) (h1 : i < (l.length : Int)) : setR l i x = .ok (l.set i.toNat x) := by
  unfold setR
  have e : ixN l.length i = some i.toNat := by unfold ixN; rw [if_pos h0, if_pos h1]
  rw [e]
theorem Ok.set {α β : Type} {l : List α} {i : Int} {x : α} {k : List α → Res β} {ψ : β → Prop} (h0 : 0 ≤ i) (h1 : i < (l.length : Int)) (h : ∀ l', l'.length = l.length → Ok (k l') ψ) : Ok ((setR l i x).bind k) ψ := by
  rw [setR_in h0 h1]
  exact h _ (List.length_set ..)
theorem digit_ok {st : List Int} {b : Int} (h : Gd st) (hb : 0 < b) (hb2 : b.natAbs < 2 ^ 4000) : Ok (l_digit st b) fun r => (0 ≤ r.1 ∧ r.1 < b) ∧ r.2.length = 3 := by
  unfold l_digit
  refine Ok.bind (φ := fun l => l.length = 3) (Ok.ite (fun c => ?_) (fun c => ?_)) fun l hl => ?_
  · have e : st.length = 1 := by have := of_decide_eq_true c; omega
    refine Ok.ix (by decide) (by omega) fun x _ _ => Ok.guard (by simp [e]) (Ok.pure (by simp [e]))
  · have e : ¬ (st.length : Int) = 1 := of_decide_eq_false c
    refine Ok.pure ?_
    rcases h with h | h
    · exact absurd (by omega) e
    · exact h
  refine Ok.ix (by decide) (by omega) fun x _ _ => Ok.ite (fun c => ?_) (fun c => ?_)
  · refine Ok.ix (by decide) (by omega) fun y _ _ => Ok.guard hb (Ok.lt (Ok.ix (by decide) (by omega) fun z _ _ => Ok.guard (divW hb hb2) (Ok.set (by decide) (by omega) fun l' e => Ok.pure ⟨⟨Int.emod_nonneg _ (Int.ne_of_gt hb), Int.emod_lt_of_pos _ hb⟩, e.trans hl⟩)))
  · refine Ok.ix (by decide) (by omega) fun y _ _ => Ok.set (by decide) (by omega) fun l' e => Ok.ix (by decide) (by omega) fun z _ _ => Ok.ix (by decide) (by omega) fun u _ _ => Ok.lt ?_
    generalize hn : (((z + 7919 * u) + 1) * 48271) % 2147483647 = n
    have hn1 : 0 ≤ n ∧ n < 2147483647 := by subst hn; exact ⟨Int.emod_nonneg _ (by decide), Int.emod_lt_of_pos _ (by decide)⟩
    refine Ok.guard (mulW (a := 32) (b := 32) (by omega) (by omega)) (Ok.lt ?_)
    generalize hm : (n * (n / 1009 + 69621)) % 2147483647 = m
    have hm1 : 0 ≤ m ∧ m < 2147483647 := by subst hm; exact ⟨Int.emod_nonneg _ (by decide), Int.emod_lt_of_pos _ (by decide)⟩
    refine Ok.guard (mulW (a := 32) (b := 32) (by omega) (by omega)) (Ok.guard hb (Ok.pure ⟨⟨Int.emod_nonneg _ (Int.ne_of_gt hb), Int.emod_lt_of_pos _ hb⟩, e.trans hl⟩))
theorem gd3 {st : List Int} (h : st.length = 3) : Gd st := .inr h
/-- a draw -/
theorem dg {β : Type} {st : List Int} {b : Int} {k : Int × List Int → Res β} {ψ : β → Prop} (h : Gd st) (hb : 0 < b) (hb2 : b.natAbs < 2 ^ 4000) (hk : ∀ x s, 0 ≤ x → x < b → s.length = 3 → Ok (k (x, s)) ψ) : Ok ((l_digit st b).bind k) ψ :=
  Ok.bind (digit_ok h hb hb2) fun r p => hk r.1 r.2 p.1.1 p.1.2 p.2
theorem big {b : Int} {n : Nat} (h : b.natAbs < 2 ^ n) (hn : n ≤ 4000) : b.natAbs < 2 ^ 4000 := Nat.lt_of_lt_of_le h (Nat.pow_le_pow_right (by decide) hn)
theorem bg {b : Int} (h : b.natAbs < 18446744073709551616) : b.natAbs < 2 ^ 4000 := big (n := 64) h (by decide)
end A

set_option Elab.async false
set_option linter.all false
set_option maxRecDepth 100000
set_option maxHeartbeats 2000000
namespace A
open PySem PySem.Spec PyProof.Rows L2 Y
open Y.Enc (enc)
theorem abs_eq (i : Int) : absI i = (i.natAbs : Int) := by unfold absI; split <;> omega
def euF {R : Type} : Int × Int → Res (Fl (Int × Int) R) := fun a12 => (if (decide (0 < a12.2)) = true then guardR (0 < a12.2) <| lt ((a12.1 % a12.2) : Int) fun x16 => (.ok (.nx (a12.2, x16)) : Res (Fl (Int × Int) R)) else .ok (.bk (a12.1, a12.2)))
theorem euclid {R : Type} (n : Nat) : ∀ a b : Nat, b < n → whileR n ((a : Int), (b : Int)) (euF (R := R)) = .ok (.bk (((Nat.gcd a b : Nat) : Int), 0)) := by
  induction n with
  | zero => intro a b h; omega
  | succ n ih =>
    intro a b h
    unfold whileR
    by_cases hb : 0 < (b : Int)
    · have e1 : euF (R := R) ((a : Int), (b : Int)) = .ok (.nx ((b : Int), (a : Int) % (b : Int))) := by
        unfold euF
        rw [if_pos (decide_eq_true hb)]
        unfold guardR
        rw [if_pos hb]
        rfl
      rw [e1]
      show whileR n ((b : Int), (a : Int) % (b : Int)) _ = _
      have e : (a : Int) % (b : Int) = ((a % b : Nat) : Int) := (Int.natCast_emod a b).symm
      rw [e, ih b (a % b) (by have := Nat.mod_lt a (show b > 0 by omega); omega)]
      rw [Nat.gcd_comm a b, Nat.gcd_rec b a, Nat.gcd_comm]
    · have : b = 0 := by omega
      subst this
      simp [euF]
      rfl
theorem div_ok (a b : Int) : m_divisor a b = .ok (Int.gcd a b : Int) := by
  have e0 : m_divisor a b = (whileR ((absI b).natAbs + 1) (absI a, absI b) euF).bind (afterR fun a17 => .ok a17.1) := rfl
  rw [e0, abs_eq, abs_eq, Int.natAbs_natCast, euclid (b.natAbs + 1) a.natAbs b.natAbs (by omega)]
  rfl
theorem frac_facts {a b : Int} (hb : b ≠ 0) : ∃ s : Int, (if b < 0 then -(Int.gcd a b : Int) else (Int.gcd a b : Int)) = s ∧ s ≠ 0 ∧ s.natAbs ≤ b.natAbs ∧ Int.fdiv a s * s = a ∧ Int.fdiv b s * s = b ∧ 0 < Int.fdiv b s ∧ Int.gcd (Int.fdiv a s) (Int.fdiv b s) = 1 := by
  have hg : 0 < Int.gcd a b := Int.gcd_pos_of_ne_zero_right a hb
  have ha' : ((Int.gcd a b : Nat) : Int) ∣ a := Int.gcd_dvd_left ..
  have hb' : ((Int.gcd a b : Nat) : Int) ∣ b := Int.gcd_dvd_right ..
  generalize hG : Int.gcd a b = g at *
  refine ⟨_, rfl, ?_⟩
  obtain ⟨p, ep⟩ := ha'
  obtain ⟨q, eq⟩ := hb'
  have hgn : (g : Int) ≠ 0 := by omega
  have hpq : Int.gcd p q = 1 := by
    have e : Int.gcd ((g : Int) * p) ((g : Int) * q) = g := by rw [← ep, ← eq]; exact hG
    rw [Int.gcd_mul_left] at e
    have e2 : g * Int.gcd p q = g * 1 := by simpa using e
    exact Nat.eq_of_mul_eq_mul_left hg e2
  have hle : g ≤ b.natAbs := by
    rw [eq, Int.natAbs_mul]
    have : 0 < q.natAbs := Int.natAbs_pos.mpr (by rintro rfl; exact hb (by rw [eq]; simp))
    simpa using Nat.le_mul_of_pos_right g this
  by_cases hn : b < 0
  · rw [if_pos hn]
    have e1 : a = -p * -(g : Int) := by rw [ep, Int.neg_mul_neg, Int.mul_comm]
    have e2 : b = -q * -(g : Int) := by rw [eq, Int.neg_mul_neg, Int.mul_comm]
    have d1 : Int.fdiv a (-(g : Int)) = -p := by rw [e1]; exact Int.mul_fdiv_cancel _ (by omega)
    have d2 : Int.fdiv b (-(g : Int)) = -q := by rw [e2]; exact Int.mul_fdiv_cancel _ (by omega)
    rw [d1, d2]
    refine ⟨by omega, by omega, e1.symm, e2.symm, ?_, by simpa using hpq⟩
    rcases Int.lt_or_le q 0 with h | h
    · omega
    · have := Int.mul_nonneg (show (0 : Int) ≤ g by omega) h
      rw [← eq] at this
      exact absurd hn (by omega)
  · rw [if_neg hn]
    have e1 : a = p * (g : Int) := by rw [ep, Int.mul_comm]
    have e2 : b = q * (g : Int) := by rw [eq, Int.mul_comm]
    have d1 : Int.fdiv a (g : Int) = p := by rw [e1]; exact Int.mul_fdiv_cancel _ hgn
    have d2 : Int.fdiv b (g : Int) = q := by rw [e2]; exact Int.mul_fdiv_cancel _ hgn
    rw [d1, d2]
    refine ⟨hgn, by omega, e1.symm, e2.symm, ?_, hpq⟩
    rcases Int.lt_or_le 0 q with h | h
    · exact h
    · have := Int.mul_nonneg (show (0 : Int) ≤ g by omega) (show 0 ≤ -q by omega)
      rw [Int.mul_neg, ← eq] at this
      exact absurd hn (by omega)
/-- the fraction of a by b, in lowest terms -/
def FracOf (a b : Int) (f : Tp2 Int Int) : Prop := 0 < f.b ∧ Int.gcd f.a f.b = 1 ∧ f.a * b = a * f.b ∧ f.a.natAbs ≤ a.natAbs ∧ f.b.natAbs ≤ b.natAbs
theorem natAbs_le_of_mul {x s a : Int} (h : x * s = a) (hs : s ≠ 0) : x.natAbs ≤ a.natAbs := by
  rw [← h, Int.natAbs_mul]
  exact Nat.le_mul_of_pos_right _ (by omega)
/-- what both places are shared by -/
def shr (a b : Int) : Int := if b < 0 then -(Int.gcd a b : Int) else (Int.gcd a b : Int)
def lowT (a b : Int) : Tp2 Int Int := ⟨Int.fdiv a (shr a b), Int.fdiv b (shr a b)⟩
theorem shr_small {a b : Int} (hb : b ≠ 0) : shr a b ≠ 0 ∧ (shr a b).natAbs ≤ b.natAbs := by
  obtain ⟨s, e, h0, h1, _⟩ := frac_facts (a := a) hb
  unfold shr
  rw [e]
  exact ⟨h0, h1⟩
theorem lowT_of {a b : Int} (hb : b ≠ 0) : FracOf a b (lowT a b) := by
  obtain ⟨s, e, h0, h1, h2, h3, h4, h5⟩ := frac_facts (a := a) hb
  have es : shr a b = s := e
  unfold lowT
  rw [es]
  refine ⟨h4, h5, ?_, natAbs_le_of_mul h2 h0, natAbs_le_of_mul h3 h0⟩
  show Int.fdiv a s * b = a * Int.fdiv b s
  conv => lhs; rw [← h3]
  conv => rhs; rw [← h2]
  simp only [Int.mul_comm, Int.mul_left_comm, Int.mul_assoc]
theorem shr_log {a b : Int} {n : Nat} (hb : b ≠ 0) (hs : b.natAbs < 2 ^ n) (h0 : 0 < n) (h9 : n ≤ 9000) : (shr a b).natAbs.log2 < 9000 := Nat.lt_of_lt_of_le (log2_small (b := n) (Nat.lt_of_le_of_lt (shr_small hb).2 hs) h0) h9
theorem shr_bind {β : Type} {a b : Int} {k : Int → Res β} : ((if (decide (b < 0)) = true then lt ((-(Int.gcd a b : Int)) : Int) fun x28 => .ok x28 else .ok (Int.gcd a b : Int)) : Res (Int)).bind k = k (shr a b) := by
  unfold shr
  by_cases hn : b < 0
  · rw [if_pos (decide_eq_true hn), if_pos hn]; rfl
  · rw [if_neg (by simpa using hn), if_neg hn]; rfl
theorem fraction_eq {a b : Int} {n : Nat} (hb : b ≠ 0) (hs : b.natAbs < 2 ^ n) (h0 : 0 < n := by decide) (h9 : n ≤ 9000 := by decide) : m_fraction (.int a) (.int b) = .ok (lowT a b) := by
  have r : m_fraction (.int a) (.int b) = guardR (okEq (.int b) (enc (0 : Int))) (if (eqD (.int b) (enc (0 : Int))) = true then .err ⟨"NoFraction", []⟩ else ((m_divisor a b).noErr).bind fun x19 => ((if (decide (b < 0)) = true then lt ((-x19) : Int) fun x28 => .ok x28 else .ok x19) : Res (Int)).bind fun a29 => guardR (CDivZ a a29) <| guardR (CDivZ b a29) <| .ok (⟨(Int.fdiv a a29), (Int.fdiv b a29)⟩ : (Tp2 Int Int))) := rfl
  rw [r]
  unfold guardR
  rw [if_pos (okEq_of rfl rfl), if_neg (show ¬ (eqD (.int b) (enc (0 : Int)) = true) from fun h => hb (of_decide_eq_true h)), div_ok]
  show (((if (decide (b < 0)) = true then lt ((-(Int.gcd a b : Int)) : Int) fun x28 => .ok x28 else .ok (Int.gcd a b : Int)) : Res (Int)).bind _) = _
  rw [shr_bind, if_pos ⟨(shr_small hb).1, shr_log hb hs h0 h9⟩, if_pos ⟨(shr_small hb).1, shr_log hb hs h0 h9⟩]
  rfl
theorem dvd_of_cop {q p r : Int} (h : q ∣ p * r) (hg : Int.gcd p q = 1) : q ∣ r := by
  have h1 : q.natAbs ∣ p.natAbs * r.natAbs := by rw [← Int.natAbs_mul]; exact Int.natAbs_dvd_natAbs.mpr h
  have h2 : Nat.Coprime q.natAbs p.natAbs := (Nat.gcd_comm ..).trans hg
  exact Int.natAbs_dvd_natAbs.mp (Nat.Coprime.dvd_of_dvd_mul_left h2 h1)
theorem uniq {p q p' q' : Int} (h : p * q' = p' * q) (hg : Int.gcd p q = 1) (hg' : Int.gcd p' q' = 1) (hq : 0 < q) (hq' : 0 < q') : p = p' ∧ q = q' := by
  have d1 : q ∣ q' := dvd_of_cop ⟨p', by rw [h, Int.mul_comm]⟩ hg
  have d2 : q' ∣ q := dvd_of_cop ⟨p, by rw [← h, Int.mul_comm]⟩ hg'
  have e : q = q' := Int.dvd_antisymm (by omega) (by omega) d1 d2
  subst e
  exact ⟨Int.eq_of_mul_eq_mul_right (by omega) h, rfl⟩
/-- in lowest terms -/
def Low (f : Tp2 Int Int) : Prop := 0 < f.b ∧ Int.gcd f.a f.b = 1
theorem low_eq {f : Tp2 Int Int} {a b : Int} (hf : Low f) (hb : b ≠ 0) (h : f.a * b = a * f.b) : lowT a b = f := by
  obtain ⟨h1, h2, h3, _, _⟩ := lowT_of (a := a) hb
  generalize lowT a b = g at *
  obtain ⟨p, q⟩ := g
  obtain ⟨u, v⟩ := f
  obtain ⟨hv, hg⟩ := hf
  simp only at *
  have e : p * v = u * q := by
    apply Int.eq_of_mul_eq_mul_right hb
    grind
  obtain ⟨rfl, rfl⟩ := uniq e h2 hg h1 hv
  rfl
end A

set_option Elab.async false
set_option linter.all false
set_option maxRecDepth 100000
set_option maxHeartbeats 2000000
namespace A
/-! # edits over plain fractions -/
structure Er where
  s : Rat
  b : Option Rat
  r : Rat
def byR (e : Er) (t : Rat) : Option Rat := match e.b with | none => none | some x => some (x + e.r * t)
def ledR : List Er → Rat → Option Rat
  | [], _ => none
  | e :: l, t => if t < e.s then byR e t else ledR l (t - e.s)
def sumR : List Er → Rat | [] => 0 | e :: l => e.s + sumR l
structure GoodE (e : Er) : Prop where
  s : 0 < e.s
  r : 0 ≤ e.r
  b : ∀ x, e.b = some x → 0 ≤ x
  n : e.b = none → e.r = 0
def onB (e f : Er) : Bool := match e.b, f.b with
  | none, none => true
  | some x, some y => decide (e.r = f.r) && decide (y = x + e.r * e.s)
  | _, _ => false
def mergeR (a e : Er) : Er := ⟨a.s + e.s, a.b, a.r⟩
def pushR (st : List Er) (e : Er) : List Er := match st with
  | [] => [e]
  | a :: r => if onB a e = true then mergeR a e :: r else e :: a :: r
def noLast : List Er → List Er | [] => [] | a :: r => if a.b = none then r else a :: r
theorem noLast_cons (a : Er) (r : List Er) : noLast (a :: r) = if a.b = none then r else a :: r := rfl
def tidyR (l : List Er) : List Er := (noLast (l.foldl pushR [])).reverse
def TidyR : List Er → Prop
  | [] => True
  | [e] => e.b ≠ none
  | e :: f :: l => onB e f = false ∧ TidyR (f :: l)
theorem onB_merge (b a e : Er) : onB b (mergeR a e) = onB b a := rfl
theorem ledR_congr {m m' : List Er} (h : ∀ t, ledR m t = ledR m' t) : ∀ (l : List Er) (t : Rat), ledR (l ++ m) t = ledR (l ++ m') t
  | [], t => h t
  | e :: l, t => by
    show (if t < e.s then byR e t else ledR (l ++ m) (t - e.s)) = (if t < e.s then byR e t else ledR (l ++ m') (t - e.s))
    rw [ledR_congr h l]
theorem led_merge {a e : Er} (h : onB a e = true) (he : 0 < e.s) (l : List Er) (t : Rat) : ledR (mergeR a e :: l) t = ledR (a :: e :: l) t := by
  show (if t < a.s + e.s then byR (mergeR a e) t else ledR l (t - (a.s + e.s))) = (if t < a.s then byR a t else if t - a.s < e.s then byR e (t - a.s) else ledR l (t - a.s - e.s))
  have e1 : t - (a.s + e.s) = t - a.s - e.s := by grind
  by_cases c : t < a.s
  · rw [if_pos c, if_pos (show t < a.s + e.s by grind)]; rfl
  · rw [if_neg c, e1]
    by_cases c2 : t - a.s < e.s
    · rw [if_pos c2, if_pos (show t < a.s + e.s by grind)]
      show byR a t = byR e (t - a.s)
      unfold onB at h
      unfold byR
      revert h
      cases a.b <;> cases e.b <;> intro h <;> simp only [Bool.and_eq_true, decide_eq_true_eq] at h ⊢
      · contradiction
      · contradiction
      · rename_i x y
        obtain ⟨h1, h2⟩ := h
        rw [h2, ← h1]
        congr 1
        grind
    · rw [if_neg c2, if_neg (show ¬ t < a.s + e.s by grind)]
theorem led_push {st : List Er} {e : Er} (he : 0 < e.s) (l : List Er) (t : Rat) : ledR ((pushR st e).reverse ++ l) t = ledR (st.reverse ++ e :: l) t := by
  unfold pushR
  cases st with
  | nil => rfl
  | cons a r =>
    simp only
    by_cases c : onB a e = true
    · rw [if_pos c]
      simp only [List.reverse_cons, List.append_assoc, List.singleton_append]
      exact ledR_congr (fun t => led_merge c he l t) _ t
    · rw [if_neg c]
      simp only [List.reverse_cons, List.append_assoc, List.singleton_append, List.cons_append, List.nil_append]
theorem led_fold : ∀ (l st : List Er), (∀ e ∈ l, 0 < e.s) → ∀ t, ledR (l.foldl pushR st).reverse t = ledR (st.reverse ++ l) t
  | [], st, _, t => by rw [List.append_nil]; rfl
  | e :: l, st, h, t => by
    rw [List.foldl_cons, led_fold l _ (fun y m => h y (List.mem_cons_of_mem _ m)), led_push (h e List.mem_cons_self)]
theorem led_blank {e : Er} (h : e.b = none) : ∀ (l : List Er) (t : Rat), ledR (l ++ [e]) t = ledR l t
  | [], t => by
    show (if t < e.s then byR e t else none) = none
    have : byR e t = none := by unfold byR; rw [h]
    rw [this]
    split <;> rfl
  | a :: l, t => by
    show (if t < a.s then byR a t else ledR (l ++ [e]) (t - a.s)) = (if t < a.s then byR a t else ledR l (t - a.s))
    rw [led_blank h l]
theorem led_noLast (st : List Er) (t : Rat) : ledR (noLast st).reverse t = ledR st.reverse t := by
  cases st with
  | nil => rfl
  | cons a r =>
    rw [noLast_cons]
    by_cases c : a.b = none
    · rw [if_pos c, List.reverse_cons, led_blank c]
    · rw [if_neg c]
/-- a tidied list leads alike -/
theorem led_tidy {l : List Er} (h : ∀ e ∈ l, 0 < e.s) (t : Rat) : ledR (tidyR l) t = ledR l t := by
  unfold tidyR
  rw [led_noLast, led_fold l [] h]
  rfl
def SOk : List Er → Prop
  | [] => True
  | [_] => True
  | a :: b :: r => onB b a = false ∧ SOk (b :: r)
theorem push_ok {st : List Er} {e : Er} (h : SOk st) : SOk (pushR st e) := by
  unfold pushR
  cases st with
  | nil => trivial
  | cons a r =>
    simp only
    by_cases c : onB a e = true
    · rw [if_pos c]
      cases r with
      | nil => trivial
      | cons b r => exact ⟨by rw [onB_merge]; exact h.1, h.2⟩
    · rw [if_neg c]
      exact ⟨by simpa using c, h⟩
theorem fold_ok : ∀ (l st : List Er), SOk st → SOk (l.foldl pushR st)
  | [], _, h => h
  | _ :: l, _, h => fold_ok l _ (push_ok h)
theorem SOk.tail {a : Er} {r : List Er} (h : SOk (a :: r)) : SOk r := by
  cases r with
  | nil => trivial
  | cons b r => exact h.2
theorem rev_tidy : ∀ (st l : List Er), SOk st → TidyR l → (∀ a r, st = a :: r → match l with | [] => a.b ≠ none | f :: _ => onB a f = false) → TidyR (st.reverse ++ l)
  | [], l, _, hl, _ => hl
  | a :: r, l, h, hl, hh => by
    rw [List.reverse_cons, List.append_assoc]
    refine rev_tidy r (a :: l) h.tail ?_ ?_
    · have := hh a r rfl
      cases l with
      | nil => exact this
      | cons f l => exact ⟨this, hl⟩
    · rintro b r' rfl
      exact h.1
theorem noLast_ok {st : List Er} (h : SOk st) : SOk (noLast st) := by
  cases st with
  | nil => trivial
  | cons a r =>
    rw [noLast_cons]
    by_cases c : a.b = none
    · rw [if_pos c]; exact h.tail
    · rw [if_neg c]; exact h
theorem tidy_tidy (l : List Er) : TidyR (tidyR l) := by
  have h0 := fold_ok l [] trivial
  unfold tidyR
  generalize l.foldl pushR [] = st at *
  have := rev_tidy (noLast st) [] (noLast_ok h0) trivial ?_
  · rw [List.append_nil] at this; exact this
  rintro a r e
  cases st with
  | nil => exact nomatch e
  | cons b q =>
    rw [noLast_cons] at e
    by_cases c : b.b = none
    · rw [if_pos c] at e
      subst e
      have := h0.1
      unfold onB at this
      rw [c] at this
      intro z
      rw [z] at this
      exact nomatch this
    · rw [if_neg c] at e
      cases e
      exact c
theorem push_good {st : List Er} {e : Er} (h : ∀ x ∈ st, GoodE x) (he : GoodE e) : ∀ x ∈ pushR st e, GoodE x := by
  intro x m
  unfold pushR at m
  cases st with
  | nil => rw [List.mem_singleton.mp m]; exact he
  | cons a r =>
    simp only at m
    by_cases c : onB a e = true
    · rw [if_pos c] at m
      rcases List.mem_cons.mp m with rfl | m
      · have ha := h a List.mem_cons_self
        exact ⟨by show 0 < a.s + e.s; have := ha.s; have := he.s; grind, ha.r, ha.b, ha.n⟩
      · exact h x (List.mem_cons_of_mem _ m)
    · rw [if_neg c] at m
      rcases List.mem_cons.mp m with rfl | m
      · exact he
      · exact h x m
theorem fold_good : ∀ (l st : List Er), (∀ x ∈ st, GoodE x) → (∀ x ∈ l, GoodE x) → ∀ x ∈ l.foldl pushR st, GoodE x
  | [], _, h, _ => h
  | e :: l, st, h, hl => fold_good l _ (push_good h (hl e List.mem_cons_self)) fun y m => hl y (List.mem_cons_of_mem _ m)
theorem noLast_mem {st : List Er} {x : Er} (m : x ∈ noLast st) : x ∈ st := by
  cases st with
  | nil => exact m
  | cons a r =>
    rw [noLast_cons] at m
    by_cases c : a.b = none
    · rw [if_pos c] at m; exact List.mem_cons_of_mem _ m
    · rw [if_neg c] at m; exact m
theorem tidy_good {l : List Er} (h : ∀ x ∈ l, GoodE x) : ∀ x ∈ tidyR l, GoodE x := fun x m =>
  fold_good l [] (fun _ m => nomatch m) h x (noLast_mem (List.mem_reverse.mp m))
theorem led_cons_lt {e : Er} {l : List Er} {t : Rat} (h : t < e.s) : ledR (e :: l) t = byR e t := if_pos h
theorem led_cons_ge {e : Er} {l : List Er} {t : Rat} (h : e.s ≤ t) : ledR (e :: l) t = ledR l (t - e.s) := if_neg (show ¬ t < e.s by grind)
/-- two edits that lead alike from 0 to somewhere start alike -/
theorem by_eq {e f : Er} {w : Rat} (he : GoodE e) (hf : GoodE f) (hw : 0 < w) (h : ∀ t, 0 ≤ t → t < w → byR e t = byR f t) : e.b = f.b ∧ e.r = f.r := by
  have h0 := h 0 (by grind) hw
  have h1 := h (w / 2) (by grind) (by grind)
  have en := he.n
  have fn := hf.n
  unfold byR at h0 h1
  revert h0 h1 en fn
  cases e.b <;> cases f.b <;> intro h0 h1 en fn <;> simp only [Option.some.injEq, reduceCtorEq] at *
  · exact ⟨trivial, by rw [en trivial, fn trivial]⟩
  · rename_i x y
    have exy : x = y := by grind
    refine ⟨exy, ?_⟩
    subst exy
    have e1 : e.r * (w / 2) = f.r * (w / 2) := by grind
    have e2 : (e.r - f.r) * (w / 2) = 0 := by grind
    rcases Rat.mul_eq_zero.mp e2 with z | z
    · grind
    · grind
theorem tidy_tail {e : Er} {l : List Er} (h : TidyR (e :: l)) : TidyR l := by
  cases l with
  | nil => trivial
  | cons f l => exact h.2
/-- a tidy list that leads nowhere is empty -/
theorem tidy_nil {l : List Er} (h : TidyR l) (g : ∀ e ∈ l, GoodE e) (z : ∀ t, 0 ≤ t → ledR l t = none) : l = [] := by
  cases l with
  | nil => rfl
  | cons e l =>
    exfalso
    have ge := g e List.mem_cons_self
    have e0 := z 0 (by grind)
    rw [led_cons_lt ge.s] at e0
    have eb : e.b = none := by
      unfold byR at e0
      revert e0
      cases e.b with
      | none => intro _; rfl
      | some x => intro q; exact nomatch q
    cases l with
    | nil => exact h eb
    | cons f l =>
      have gf := g f (List.mem_cons_of_mem _ List.mem_cons_self)
      have f0 := z e.s (by have := ge.s; grind)
      rw [led_cons_ge (by grind), led_cons_lt (by have := gf.s; grind)] at f0
      have h1 := h.1
      unfold onB at h1
      unfold byR at f0
      rw [eb] at h1
      revert f0 h1
      cases f.b with
      | none => intro _ q; exact nomatch q
      | some x => intro q; exact nomatch q
/-- the head of the shorter span: it can't be -/
theorem tidy_short {e f : Er} {l m : List Er} (hl : TidyR (e :: l)) (gl : ∀ x ∈ e :: l, GoodE x) (gm : ∀ x ∈ f :: m, GoodE x) (z : ∀ t, 0 ≤ t → ledR (e :: l) t = ledR (f :: m) t) (c : e.s < f.s) : False := by
  have ge := gl e List.mem_cons_self
  have gf := gm f List.mem_cons_self
  have se := ge.s
  obtain ⟨q1, q2⟩ := by_eq ge gf se fun t h0 h1 => by
    have := z t h0
    rw [led_cons_lt h1, led_cons_lt (by grind)] at this
    exact this
  cases l with
  | nil =>
    have := z e.s (by grind)
    rw [led_cons_ge (by grind), led_cons_lt c] at this
    have eb : f.b = none := by
      unfold byR at this
      revert this
      cases f.b with
      | none => intro _; rfl
      | some x => intro q; exact nomatch q
    exact hl (q1.trans eb)
  | cons g l =>
    have gg := gl g (List.mem_cons_of_mem _ List.mem_cons_self)
    have sg := gg.s
    -- the second edit goes on where the first one ends
    let f' : Er := ⟨f.s - e.s, match f.b with | none => none | some x => some (x + f.r * e.s), f.r⟩
    have gf' : GoodE f' := by
      refine ⟨by show 0 < f.s - e.s; grind, gf.r, ?_, ?_⟩
      · intro x hx
        have : (match f.b with | none => none | some x => some (x + f.r * e.s)) = some x := hx
        revert this
        cases fb : f.b with
        | none => intro q; exact nomatch q
        | some y =>
          intro q
          cases q
          have h1 := gf.b y fb
          have h2 := Rat.mul_nonneg gf.r (show 0 ≤ e.s by grind)
          grind
      · intro hx
        have : (match f.b with | none => none | some x => some (x + f.r * e.s)) = none := hx
        refine gf.n ?_
        revert this
        cases fb : f.b with
        | none => intro q; rfl
        | some y => intro q; exact nomatch q
    have hw : 0 < min g.s (f.s - e.s) := by grind
    obtain ⟨r1, r2⟩ := by_eq gg gf' hw fun t h0 h1 => by
      have := z (e.s + t) (by grind)
      rw [led_cons_ge (by grind), led_cons_lt (by grind), led_cons_lt (by grind)] at this
      rw [show e.s + t - e.s = t by grind] at this
      rw [this]
      unfold byR
      show _ = match (match f.b with | none => none | some x => some (x + f.r * e.s)) with | none => none | some x => some (x + f.r * t)
      cases f.b with
      | none => rfl
      | some x => show some _ = some _; congr 1; grind
    have h1 := hl.1
    have r1' : g.b = match f.b with | none => none | some x => some (x + f.r * e.s) := r1
    have r2' : g.r = f.r := r2
    unfold onB at h1
    rw [r1', q1] at h1
    revert h1
    cases f.b with
    | none => intro q; exact nomatch q
    | some x => simp [q2, r2']
/-- two tidy lists that lead alike are one -/
theorem tidy_uniq : ∀ {l m : List Er}, TidyR l → TidyR m → (∀ e ∈ l, GoodE e) → (∀ e ∈ m, GoodE e) → (∀ t, 0 ≤ t → ledR l t = ledR m t) → l = m
  | [], m, _, hm, _, gm, z => (tidy_nil hm gm fun t h => (z t h).symm).symm
  | e :: l, [], hl, _, gl, _, z => tidy_nil hl gl fun t h => z t h
  | e :: l, f :: m, hl, hm, gl, gm, z => by
    have c1 : ¬ e.s < f.s := fun c => tidy_short hl gl gm z c
    have c2 : ¬ f.s < e.s := fun c => tidy_short hm gm gl (fun t h => (z t h).symm) c
    have es : e.s = f.s := by grind
    have ge := gl e List.mem_cons_self
    have gf := gm f List.mem_cons_self
    have se := ge.s
    obtain ⟨q1, q2⟩ := by_eq ge gf se fun t h0 h1 => by
      have := z t h0
      rw [led_cons_lt h1, led_cons_lt (by grind)] at this
      exact this
    have ef : e = f := by
      cases e; cases f
      simp only at *
      rw [es, q1, q2]
    have := tidy_uniq (tidy_tail hl) (tidy_tail hm) (fun x m => gl x (List.mem_cons_of_mem _ m)) (fun x m => gm x (List.mem_cons_of_mem _ m)) fun t h => by
      have := z (t + e.s) (by grind)
      rw [led_cons_ge (by grind), led_cons_ge (by grind)] at this
      rw [show t + e.s - e.s = t by grind, show t + e.s - f.s = t by grind] at this
      exact this
    rw [ef, this]
theorem tidy_of_tidy {l : List Er} (h : TidyR l) (g : ∀ e ∈ l, GoodE e) : tidyR l = l :=
  tidy_uniq (tidy_tidy l) h (tidy_good g) g fun t _ => led_tidy (fun e m => (g e m).s) t
end A

set_option Elab.async false
set_option linter.all false
set_option maxRecDepth 100000
set_option maxHeartbeats 2000000
namespace A
theorem sumR_nn : ∀ {l : List Er}, (∀ e ∈ l, 0 < e.s) → 0 ≤ sumR l
  | [], _ => Rat.le_refl
  | e :: l, h => by
    have := h e List.mem_cons_self
    have := sumR_nn fun y m => h y (List.mem_cons_of_mem e m)
    show 0 ≤ e.s + sumR l
    grind
theorem sumR_app : ∀ (l m : List Er), sumR (l ++ m) = sumR l + sumR m
  | [], m => by show sumR m = 0 + sumR m; grind
  | e :: l, m => by show e.s + sumR (l ++ m) = e.s + sumR l + sumR m; rw [sumR_app l m]; grind
theorem led_beyond : ∀ {l : List Er} {t : Rat}, sumR l ≤ t → (∀ e ∈ l, 0 < e.s) → ledR l t = none
  | [], _, _, _ => rfl
  | e :: l, t, h, g => by
    have nn := sumR_nn fun y m => g y (List.mem_cons_of_mem e m)
    have h' : e.s + sumR l ≤ t := h
    rw [led_cons_ge (by grind)]
    exact led_beyond (by grind) fun y m => g y (List.mem_cons_of_mem _ m)
theorem led_app : ∀ (l m : List Er) (t : Rat), 0 ≤ t → (∀ e ∈ l, 0 < e.s) → ledR (l ++ m) t = if t < sumR l then ledR l t else ledR m (t - sumR l)
  | [], m, t, h, _ => by
    show ledR m t = if t < 0 then none else ledR m (t - 0)
    rw [if_neg (show ¬ t < 0 by grind)]
    rw [show t - 0 = t by grind]
  | e :: l, m, t, h, g => by
    have g' := fun y m => g y (List.mem_cons_of_mem e m)
    have nn := sumR_nn g'
    show (if t < e.s then byR e t else ledR (l ++ m) (t - e.s)) = (if t < e.s + sumR l then (if t < e.s then byR e t else ledR l (t - e.s)) else ledR m (t - (e.s + sumR l)))
    by_cases c : t < e.s
    · rw [if_pos c, if_pos (show t < e.s + sumR l by grind), if_pos c]
    · rw [if_neg c, led_app l m (t - e.s) (by grind) g']
      by_cases c2 : t - e.s < sumR l
      · rw [if_pos c2, if_pos (show t < e.s + sumR l by grind), if_neg c]
      · rw [if_neg c2, if_neg (show ¬ t < e.s + sumR l by grind), show t - e.s - sumR l = t - (e.s + sumR l) by grind]
/-- what the moments from lo on, below hi, are led to; b: where the list begins -/
def piecesR : List Er → Rat → Rat → Rat → List Er
  | [], b, lo, hi => if max b lo < hi then [⟨hi - max b lo, none, 0⟩] else []
  | e :: l, b, lo, hi => (if max b lo < min (b + e.s) hi then [⟨min (b + e.s) hi - max b lo, byR e (max b lo - b), e.r⟩] else []) ++ piecesR l (b + e.s) lo hi
theorem pieces_none : ∀ {l : List Er} {b lo hi : Rat}, hi ≤ max b lo → (∀ e ∈ l, 0 < e.s) → piecesR l b lo hi = []
  | [], b, lo, hi, h, _ => if_neg (by grind)
  | e :: l, b, lo, hi, h, g => by
    have := g e List.mem_cons_self
    show (if max b lo < min (b + e.s) hi then _ else []) ++ piecesR l (b + e.s) lo hi = []
    rw [if_neg (by grind), pieces_none (by grind) fun y m => g y (List.mem_cons_of_mem _ m)]
    rfl
theorem pieces_sum : ∀ {l : List Er} {b lo hi : Rat}, max b lo < hi → (∀ e ∈ l, 0 < e.s) → sumR (piecesR l b lo hi) = hi - max b lo
  | [], b, lo, hi, h, _ => by
    show sumR (if max b lo < hi then [⟨hi - max b lo, none, 0⟩] else []) = _
    rw [if_pos h]
    show hi - max b lo + 0 = _
    grind
  | e :: l, b, lo, hi, h, g => by
    have ge := g e List.mem_cons_self
    have g' := fun y m => g y (List.mem_cons_of_mem e m)
    show sumR ((if max b lo < min (b + e.s) hi then [⟨min (b + e.s) hi - max b lo, byR e (max b lo - b), e.r⟩] else []) ++ piecesR l (b + e.s) lo hi) = _
    rw [sumR_app]
    by_cases c : max b lo < min (b + e.s) hi
    · rw [if_pos c]
      show (min (b + e.s) hi - max b lo + 0) + _ = _
      by_cases c2 : max (b + e.s) lo < hi
      · rw [pieces_sum c2 g']; grind
      · rw [pieces_none (by grind) g']; show _ + (0 : Rat) = _; grind
    · rw [if_neg c, pieces_sum (by grind) g']
      show (0 : Rat) + _ = _
      grind
theorem pieces_led : ∀ {l : List Er} {b lo hi t : Rat}, max b lo < hi → (∀ e ∈ l, 0 < e.s) → 0 ≤ t → ledR (piecesR l b lo hi) t = if t < hi - max b lo then ledR l (max b lo + t - b) else none
  | [], b, lo, hi, t, h, _, _ => by
    show ledR (if max b lo < hi then [⟨hi - max b lo, none, 0⟩] else []) t = _
    rw [if_pos h]
    show (if t < hi - max b lo then none else none) = (if t < hi - max b lo then none else none)
    rfl
  | e :: l, b, lo, hi, t, h, g, h0 => by
    have ge := g e List.mem_cons_self
    have g' := fun y m => g y (List.mem_cons_of_mem e m)
    show ledR ((if max b lo < min (b + e.s) hi then [⟨min (b + e.s) hi - max b lo, byR e (max b lo - b), e.r⟩] else []) ++ piecesR l (b + e.s) lo hi) t = if t < hi - max b lo then (if max b lo + t - b < e.s then byR e (max b lo + t - b) else ledR l (max b lo + t - b - e.s)) else none
    by_cases c : max b lo < min (b + e.s) hi
    · rw [if_pos c]
      show (if t < min (b + e.s) hi - max b lo then byR ⟨min (b + e.s) hi - max b lo, byR e (max b lo - b), e.r⟩ t else ledR (piecesR l (b + e.s) lo hi) (t - (min (b + e.s) hi - max b lo))) = _
      by_cases c1 : t < min (b + e.s) hi - max b lo
      · rw [if_pos c1, if_pos (by grind), if_pos (by grind)]
        unfold byR
        cases e.b with
        | none => rfl
        | some x => show some _ = some _; congr 1; grind
      · rw [if_neg c1]
        by_cases c2 : max (b + e.s) lo < hi
        · rw [pieces_led c2 g' (by grind)]
          by_cases c3 : t < hi - max b lo
          · rw [if_pos (by grind), if_pos c3, if_neg (by grind)]
            congr 1
            grind
          · rw [if_neg (by grind), if_neg c3]
        · rw [pieces_none (by grind) g', if_neg (by grind)]
          rfl
    · rw [if_neg c]
      show ledR (piecesR l (b + e.s) lo hi) t = _
      rw [pieces_led (by grind) g' h0]
      by_cases c3 : t < hi - max b lo
      · rw [if_pos (by grind), if_pos c3, if_neg (by grind)]
        congr 1
        grind
      · rw [if_neg (by grind), if_neg c3]
theorem pieces_good : ∀ {l : List Er} {b lo hi : Rat}, (∀ e ∈ l, GoodE e) → ∀ e ∈ piecesR l b lo hi, GoodE e
  | [], b, lo, hi, _, e, m => by
    have m' : e ∈ (if max b lo < hi then [⟨hi - max b lo, none, 0⟩] else ([] : List Er)) := m
    by_cases c : max b lo < hi
    · rw [if_pos c] at m'
      rw [List.mem_singleton.mp m']
      exact ⟨(by show 0 < hi - max b lo; grind), Rat.le_refl, (fun _ q => nomatch q), fun _ => rfl⟩
    · rw [if_neg c] at m'; exact nomatch m'
  | a :: l, b, lo, hi, g, e, m => by
    have ga := g a List.mem_cons_self
    have m' : e ∈ (if max b lo < min (b + a.s) hi then [⟨min (b + a.s) hi - max b lo, byR a (max b lo - b), a.r⟩] else []) ++ piecesR l (b + a.s) lo hi := m
    rcases List.mem_append.mp m' with m | m
    · by_cases c : max b lo < min (b + a.s) hi
      · rw [if_pos c] at m
        rw [List.mem_singleton.mp m]
        refine ⟨by show 0 < min (b + a.s) hi - max b lo; grind, ga.r, ?_, ?_⟩
        · intro x hx
          have hx' : byR a (max b lo - b) = some x := hx
          unfold byR at hx'
          revert hx'
          cases ab : a.b with
          | none => intro q; exact nomatch q
          | some y =>
            intro q
            cases q
            have h1 := ga.b y ab
            have h2 := Rat.mul_nonneg ga.r (show 0 ≤ max b lo - b by grind)
            grind
        · intro hx
          have hx' : byR a (max b lo - b) = none := hx
          unfold byR at hx'
          refine ga.n ?_
          revert hx'
          cases ab : a.b with
          | none => intro q; rfl
          | some y => intro q; exact nomatch q
      · rw [if_neg c] at m; exact nomatch m
    · exact pieces_good (fun y m => g y (List.mem_cons_of_mem _ m)) e m
/-- one edit led on by others -/
def paceR (r : Rat) (e : Er) : Er := ⟨e.s / r, e.b, r * e.r⟩
def throughR (inner : List Er) (e : Er) : List Er := match e.b with
  | none => [e]
  | some x => if e.r = 0 then [⟨e.s, ledR inner x, 0⟩] else (piecesR inner 0 x (x + e.r * e.s)).map (paceR e.r)
def overR (outer inner : List Er) : List Er := tidyR (outer.flatMap (throughR inner))
theorem pace_led {r : Rat} (hr : 0 < r) : ∀ (l : List Er) (t : Rat), ledR (l.map (paceR r)) t = ledR l (r * t)
  | [], _ => rfl
  | e :: l, t => by
    show (if t < e.s / r then byR (paceR r e) t else ledR (l.map (paceR r)) (t - e.s / r)) = (if r * t < e.s then byR e (r * t) else ledR l (r * t - e.s))
    have li : t < e.s / r ↔ r * t < e.s := Rat.lt_div_iff' hr
    by_cases c : r * t < e.s
    · rw [if_pos c, if_pos (li.mpr c)]
      unfold byR
      show (match e.b with | none => none | some x => some (x + r * e.r * t)) = _
      cases e.b with
      | none => rfl
      | some x => show some _ = some _; congr 1; grind
    · rw [if_neg c, if_neg (fun q => c (li.mp q)), pace_led hr l]
      congr 1
      have : r * (e.s / r) = e.s := by rw [Rat.mul_comm]; exact Rat.div_mul_cancel (by grind)
      grind
theorem pace_sum {r : Rat} (hr : 0 < r) : ∀ (l : List Er), r * sumR (l.map (paceR r)) = sumR l
  | [] => by show r * 0 = 0; grind
  | e :: l => by
    show r * (e.s / r + sumR (l.map (paceR r))) = e.s + sumR l
    have : r * (e.s / r) = e.s := by rw [Rat.mul_comm]; exact Rat.div_mul_cancel (by grind)
    have := pace_sum hr l
    grind
theorem byR_some {e : Er} {x : Rat} (h : e.b = some x) (t : Rat) : byR e t = some (x + e.r * t) := by unfold byR; rw [h]
theorem byR_none {e : Er} (h : e.b = none) (t : Rat) : byR e t = none := by unfold byR; rw [h]
theorem through_none {inner : List Er} {e : Er} (h : e.b = none) : throughR inner e = [e] := by unfold throughR; rw [h]
theorem through_dwell {inner : List Er} {e : Er} {x : Rat} (h : e.b = some x) (hr : e.r = 0) : throughR inner e = [⟨e.s, ledR inner x, 0⟩] := by unfold throughR; rw [h]; exact if_pos hr
theorem through_run {inner : List Er} {e : Er} {x : Rat} (h : e.b = some x) (hr : e.r ≠ 0) : throughR inner e = (piecesR inner 0 x (x + e.r * e.s)).map (paceR e.r) := by unfold throughR; rw [h]; exact if_neg hr
theorem through_sum {inner : List Er} {e : Er} (gi : ∀ y ∈ inner, 0 < y.s) (ge : GoodE e) : sumR (throughR inner e) = e.s := by
  cases hb : e.b with
  | none => rw [through_none hb]; show e.s + 0 = e.s; grind
  | some x =>
    by_cases hr : e.r = 0
    · rw [through_dwell hb hr]; show e.s + 0 = e.s; grind
    · rw [through_run hb hr]
      have h0 := ge.b x hb
      have hs := ge.s
      have hr' : 0 < e.r := by have := ge.r; grind
      have hp := Rat.mul_pos hr' hs
      have h1 := pace_sum hr' (piecesR inner 0 x (x + e.r * e.s))
      rw [pieces_sum (by grind) gi, show max 0 x = x by grind, show x + e.r * e.s - x = e.r * e.s by grind] at h1
      have : e.r * (sumR ((piecesR inner 0 x (x + e.r * e.s)).map (paceR e.r)) - e.s) = 0 := by grind
      rcases Rat.mul_eq_zero.mp this with z | z
      · exact absurd z hr
      · grind
theorem through_led {inner : List Er} {e : Er} {t : Rat} (gi : ∀ y ∈ inner, 0 < y.s) (ge : GoodE e) (h0 : 0 ≤ t) (h1 : t < e.s) : ledR (throughR inner e) t = (byR e t).bind (ledR inner) := by
  cases hb : e.b with
  | none => rw [through_none hb, byR_none hb, led_cons_lt h1, byR_none hb]; rfl
  | some x =>
    rw [byR_some hb]
    by_cases hr : e.r = 0
    · rw [through_dwell hb hr, led_cons_lt (e := ⟨e.s, ledR inner x, 0⟩) h1, hr]
      show byR ⟨e.s, ledR inner x, 0⟩ t = ledR inner (x + 0 * t)
      rw [show x + 0 * t = x by grind]
      unfold byR
      show (match ledR inner x with | none => none | some y => some (y + 0 * t)) = _
      cases ledR inner x with
      | none => rfl
      | some y => show some _ = some _; congr 1; grind
    · rw [through_run hb hr]
      have hx := ge.b x hb
      have hr' : 0 < e.r := by have := ge.r; grind
      have hp := Rat.mul_pos hr' ge.s
      have hp2 := Rat.mul_nonneg ge.r h0
      have hlt := Rat.mul_lt_mul_of_pos_left h1 hr'
      rw [pace_led hr', pieces_led (by grind) gi hp2, show max 0 x = x by grind, if_pos (by grind)]
      show ledR inner (x + e.r * t - 0) = ledR inner (x + e.r * t)
      congr 1
      grind
theorem pace_good {r : Rat} (hr : 0 < r) {e : Er} (h : GoodE e) : GoodE (paceR r e) := by
  refine ⟨?_, Rat.mul_nonneg (by grind) h.r, h.b, fun q => ?_⟩
  · show 0 < e.s / r
    rw [Rat.div_def]
    exact Rat.mul_pos h.s (Rat.inv_pos.mpr hr)
  · show r * e.r = 0
    rw [h.n q]
    grind
theorem led_nn {l : List Er} (g : ∀ e ∈ l, GoodE e) : ∀ {t x : Rat}, 0 ≤ t → ledR l t = some x → 0 ≤ x := by
  induction l with
  | nil => intro t x _ q; exact nomatch q
  | cons e l ih =>
    intro t x h0 q
    have ge := g e List.mem_cons_self
    by_cases c : t < e.s
    · rw [led_cons_lt c] at q
      unfold byR at q
      revert q
      cases eb : e.b with
      | none => intro q; exact nomatch q
      | some y =>
        intro q
        cases q
        have := ge.b y eb
        have := Rat.mul_nonneg ge.r h0
        grind
    · rw [led_cons_ge (by grind)] at q
      exact ih (fun y m => g y (List.mem_cons_of_mem _ m)) (by grind) q
theorem through_good {inner : List Er} {e : Er} (gi : ∀ y ∈ inner, GoodE y) (ge : GoodE e) : ∀ y ∈ throughR inner e, GoodE y := by
  intro y m
  cases hb : e.b with
  | none => rw [through_none hb] at m; rw [List.mem_singleton.mp m]; exact ge
  | some x =>
    by_cases hr : e.r = 0
    · rw [through_dwell hb hr] at m
      rw [List.mem_singleton.mp m]
      exact ⟨ge.s, Rat.le_refl, fun z q => led_nn gi (ge.b x hb) q, fun _ => rfl⟩
    · rw [through_run hb hr] at m
      obtain ⟨z, mz, rfl⟩ := List.mem_map.mp m
      exact pace_good (by have := ge.r; grind) (pieces_good gi z mz)
theorem flat_good {inner outer : List Er} (gi : ∀ y ∈ inner, GoodE y) (go : ∀ y ∈ outer, GoodE y) : ∀ y ∈ outer.flatMap (throughR inner), GoodE y := by
  intro y m
  obtain ⟨e, me, m⟩ := List.mem_flatMap.mp m
  exact through_good gi (go e me) y m
theorem flat_led {inner : List Er} (gi : ∀ y ∈ inner, GoodE y) : ∀ {outer : List Er} {t : Rat}, (∀ y ∈ outer, GoodE y) → 0 ≤ t → ledR (outer.flatMap (throughR inner)) t = (ledR outer t).bind (ledR inner)
  | [], t, _, _ => rfl
  | e :: l, t, go, h0 => by
    have gi' := fun y m => (gi y m).s
    have ge := go e List.mem_cons_self
    have gl := fun y m => go y (List.mem_cons_of_mem e m)
    rw [List.flatMap_cons, led_app _ _ _ h0 (fun y m => (through_good gi ge y m).s), through_sum gi' ge]
    by_cases c : t < e.s
    · rw [if_pos c, led_cons_lt c, through_led gi' ge h0 c]
    · rw [if_neg c, led_cons_ge (by grind), flat_led gi gl (by grind)]
theorem over_led {outer inner : List Er} {t : Rat} (gi : ∀ y ∈ inner, GoodE y) (go : ∀ y ∈ outer, GoodE y) (h0 : 0 ≤ t) : ledR (overR outer inner) t = (ledR outer t).bind (ledR inner) := by
  unfold overR
  rw [led_tidy fun e m => (flat_good gi go e m).s, flat_led gi go h0]
theorem over_good {outer inner : List Er} (gi : ∀ y ∈ inner, GoodE y) (go : ∀ y ∈ outer, GoodE y) : ∀ y ∈ overR outer inner, GoodE y := tidy_good (flat_good gi go)
def partR (l : List Er) (lo hi : Rat) : List Er := tidyR (piecesR l 0 lo hi)
theorem part_led {l : List Er} {lo hi t : Rat} (g : ∀ y ∈ l, GoodE y) (h : lo < hi) (hl : 0 ≤ lo) (h0 : 0 ≤ t) : ledR (partR l lo hi) t = if t < hi - lo then ledR l (lo + t) else none := by
  unfold partR
  rw [led_tidy fun e m => (pieces_good g e m).s, pieces_led (by grind) (fun e m => (g e m).s) h0, show max 0 lo = lo by grind, show lo + t - 0 = lo + t by grind]
theorem part_good {l : List Er} {lo hi : Rat} (g : ∀ y ∈ l, GoodE y) : ∀ y ∈ partR l lo hi, GoodE y := tidy_good (pieces_good g)
theorem after_led {l m : List Er} {t : Rat} (g : ∀ y ∈ l, GoodE y) (g' : ∀ y ∈ m, GoodE y) (h0 : 0 ≤ t) : ledR (tidyR (l ++ m)) t = if t < sumR l then ledR l t else ledR m (t - sumR l) := by
  rw [led_tidy (fun e q => (List.mem_append.mp q).elim (fun q => (g e q).s) fun q => (g' e q).s), led_app _ _ _ h0 fun e q => (g e q).s]
end A

set_option Elab.async false
set_option linter.all false
set_option maxRecDepth 100000
set_option maxHeartbeats 2000000
namespace A
open PySem PySem.Spec PyProof.Rows L2 Y
open Y.Enc (enc)
/-! # fractions as they are handed about: the pair of a Rat -/
abbrev Fr := Tp2 Int Int
abbrev Ed := Tp3 Fr (Option Fr) Fr
def F (q : Rat) : Fr := ⟨q.num, (q.den : Int)⟩
def G (e : Er) : Ed := ⟨F e.s, e.b.map F, F e.r⟩
theorem den_pos (q : Rat) : (0 : Int) < (q.den : Int) := by have := q.den_nz; omega
theorem F_low (q : Rat) : Low (F q) := ⟨den_pos q, q.reduced⟩
theorem F_inj {p q : Rat} (h : F p = F q) : p = q := by
  have h1 : p.num = q.num := congrArg Tp2.a h
  have h2 : (p.den : Int) = (q.den : Int) := congrArg Tp2.b h
  exact Rat.ext h1 (by omega)
theorem lowT_F {a b : Int} (hb : b ≠ 0) : lowT a b = F (Rat.divInt a b) := by
  refine low_eq (F_low _) hb ?_
  have e := Rat.num_divInt_den (Rat.divInt a b)
  have hd : ((Rat.divInt a b).den : Int) ≠ 0 := by have := den_pos (Rat.divInt a b); omega
  exact (Rat.divInt_eq_divInt_iff hd hb).mp e
theorem lowT_add (p q : Rat) : lowT (p.num * (q.den : Int) + q.num * (p.den : Int)) ((p.den : Int) * (q.den : Int)) = F (p + q) := by
  have hp := den_pos p
  have hq := den_pos q
  rw [lowT_F (by have := Int.mul_pos hp hq; omega), ← Rat.divInt_add_divInt _ _ (by omega) (by omega), Rat.num_divInt_den, Rat.num_divInt_den]
theorem lowT_sub (p q : Rat) : lowT (p.num * (q.den : Int) - q.num * (p.den : Int)) ((p.den : Int) * (q.den : Int)) = F (p - q) := by
  have hp := den_pos p
  have hq := den_pos q
  rw [lowT_F (by have := Int.mul_pos hp hq; omega), ← Rat.divInt_sub_divInt _ _ (by omega) (by omega), Rat.num_divInt_den, Rat.num_divInt_den]
theorem lowT_mul (p q : Rat) : lowT (p.num * q.num) ((p.den : Int) * (q.den : Int)) = F (p * q) := by
  have hp := den_pos p
  have hq := den_pos q
  rw [lowT_F (by have := Int.mul_pos hp hq; omega), ← Rat.divInt_mul_divInt, Rat.num_divInt_den, Rat.num_divInt_den]
theorem lowT_div (p q : Rat) (h : q ≠ 0) : lowT (p.num * (q.den : Int)) ((p.den : Int) * q.num) = F (p / q) := by
  have hp := den_pos p
  have hn : q.num ≠ 0 := fun z => h (Rat.num_eq_zero.mp z)
  rw [lowT_F (fun z => (Int.mul_eq_zero.mp z).elim (by omega) hn), ← Rat.divInt_mul_divInt, Rat.num_divInt_den, Rat.div_def, Rat.inv_def]
/-! ## sizes -/
def Sz (q : Rat) : Prop := q.num.natAbs < 2 ^ 4400 ∧ q.den < 2 ^ 4400
def Dv (D N : Nat) (q : Rat) : Prop := ∃ k : Int, q * (D : Rat) = (k : Rat) ∧ k.natAbs ≤ N * D
section
variable {D E N M : Nat} {p q : Rat}
theorem Dv.add (h : Dv D N p) (h' : Dv D M q) : Dv D (N + M) (p + q) := by
  obtain ⟨k, e, b⟩ := h
  obtain ⟨k', e', b'⟩ := h'
  refine ⟨k + k', ?_, ?_⟩
  · rw [Rat.intCast_add]; grind
  · rw [Nat.add_mul]; omega
theorem Dv.sub (h : Dv D N p) (h' : Dv D M q) : Dv D (N + M) (p - q) := by
  obtain ⟨k, e, b⟩ := h
  obtain ⟨k', e', b'⟩ := h'
  refine ⟨k - k', ?_, ?_⟩
  · rw [Rat.intCast_sub]; grind
  · rw [Nat.add_mul]; omega
theorem Dv.mul (h : Dv D N p) (h' : Dv E M q) : Dv (D * E) (N * M) (p * q) := by
  obtain ⟨k, e, b⟩ := h
  obtain ⟨k', e', b'⟩ := h'
  refine ⟨k * k', ?_, ?_⟩
  · rw [Rat.intCast_mul, Rat.natCast_mul]; grind
  · rw [Int.natAbs_mul, show N * M * (D * E) = (N * D) * (M * E) by grind]
    exact Nat.mul_le_mul b b'
theorem Dv.up (h : Dv D N p) (hn : N ≤ M) : Dv D M p := by
  obtain ⟨k, e, b⟩ := h
  exact ⟨k, e, Nat.le_trans b (Nat.mul_le_mul_right _ hn)⟩
theorem Dv.den (h : Dv D N p) (hd : D ∣ E) : Dv E N p := by
  obtain ⟨k, e, b⟩ := h
  obtain ⟨c, rfl⟩ := hd
  refine ⟨k * (c : Int), ?_, ?_⟩
  · rw [Rat.intCast_mul, Rat.natCast_mul, Rat.intCast_natCast]; grind
  · rw [Int.natAbs_mul, Int.natAbs_natCast, ← Nat.mul_assoc]
    exact Nat.mul_le_mul_right _ b
theorem Dv.to (h : Dv D N p) (hd : D ∣ E) (hn : N ≤ M) : Dv E M p := (h.den hd).up hn
theorem Dv.mid (h : Dv D N p) (h' : Dv D M q) (h0 : 0 ≤ q) (h1 : q ≤ p) : Dv D N q := by
  obtain ⟨k, e, b⟩ := h
  obtain ⟨k', e', b'⟩ := h'
  have hd : (0 : Rat) ≤ (D : Rat) := Rat.natCast_nonneg
  have a1 : (0 : Rat) ≤ (k' : Rat) := by rw [← e']; exact Rat.mul_nonneg h0 hd
  have a2 : (k' : Rat) ≤ (k : Rat) := by rw [← e', ← e]; exact Rat.mul_le_mul_of_nonneg_right h1 hd
  have a1' := Rat.intCast_nonneg.mp a1
  have a2' := Rat.intCast_le_intCast.mp a2
  exact ⟨k', e', by omega⟩
theorem Dv.of {a b : Int} (hb : 0 < b) (hd : b.toNat ∣ D) (h : a.natAbs ≤ N * b.toNat) : Dv D N (Rat.divInt a b) := by
  obtain ⟨c, rfl⟩ := hd
  have eb : ((b.toNat : Nat) : Int) = b := by omega
  refine ⟨a * (c : Int), ?_, ?_⟩
  · rw [Rat.intCast_mul, Rat.natCast_mul, Rat.intCast_natCast, ← Rat.intCast_natCast b.toNat, eb, Rat.divInt_eq_div]
    have hb' : (b : Rat) ≠ 0 := fun z => by have := Rat.intCast_eq_zero_iff.mp z; omega
    have := Rat.div_mul_cancel (a := (a : Rat)) hb'
    grind
  · rw [Int.natAbs_mul, Int.natAbs_natCast, ← Nat.mul_assoc]
    exact Nat.mul_le_mul_right _ h
theorem Dv.int {a : Int} (h : a.natAbs ≤ N) : Dv D N (a : Rat) := ⟨a * (D : Int), by rw [Rat.intCast_mul, Rat.intCast_natCast], by rw [Int.natAbs_mul, Int.natAbs_natCast]; exact Nat.mul_le_mul_right _ h⟩
theorem Dv.bound (h : Dv D N q) (h0 : 0 < D) : q.num.natAbs ≤ N * D ∧ q.den ≤ D := by
  obtain ⟨k, e, b⟩ := h
  have hD : (D : Rat) ≠ 0 := fun z => by have := Rat.natCast_eq_zero_iff.mp z; omega
  have eq : q = Rat.divInt k (D : Int) := by
    rw [Rat.divInt_eq_div, Rat.intCast_natCast, ← e]
    exact (Rat.mul_div_cancel hD).symm
  have hl := lowT_of (a := k) (b := (D : Int)) (by omega)
  rw [lowT_F (by omega), ← eq] at hl
  have h1 := hl.2.2.2.1
  have h2 := hl.2.2.2.2
  have h1' : q.num.natAbs ≤ k.natAbs := h1
  have h2' : ((q.den : Int)).natAbs ≤ ((D : Int)).natAbs := h2
  rw [Int.natAbs_natCast, Int.natAbs_natCast] at h2'
  exact ⟨Nat.le_trans h1' b, h2'⟩
theorem Dv.sz (h : Dv D N q) (h0 : 0 < D) (h1 : D < 2 ^ 4400) (h2 : N * D < 2 ^ 4400) : Sz q :=
  ⟨Nat.lt_of_le_of_lt (h.bound h0).1 h2, Nat.lt_of_le_of_lt (h.bound h0).2 h1⟩
end
/-- what fits: every product of two of its numbers, too -/
structure Big (D N : Nat) : Prop where
  p : 0 < D
  d : D < 2 ^ 1700
  n : N < 2 ^ 400
theorem mul_lt_pow {a b m n : Nat} (h : a < 2 ^ m) (h' : b < 2 ^ n) : a * b < 2 ^ (m + n) := by
  rw [Nat.pow_add]
  exact Nat.mul_lt_mul'' h h'
theorem pow_up {a m n : Nat} (h : a < 2 ^ m) (hm : m ≤ n) : a < 2 ^ n := Nat.lt_of_lt_of_le h (Nat.pow_le_pow_right (by decide) hm)
section
variable {D N : Nat} {p q : Rat}
theorem Big.sz (b : Big D N) (h : Dv D N q) : Sz q := h.sz b.p (pow_up b.d (by decide)) (pow_up (mul_lt_pow b.n b.d) (by decide))
theorem Big.sz2 (b : Big D N) (h : Dv D N p) (h' : Dv D N q) : Sz (p * q) :=
  (h.mul h').sz (Nat.mul_pos b.p b.p) (pow_up (mul_lt_pow b.d b.d) (by decide)) (pow_up (mul_lt_pow (mul_lt_pow b.n b.n) (mul_lt_pow b.d b.d)) (by decide))
end
theorem m2 {x y : Int} {m n : Nat} (h : x.natAbs < 2 ^ m) (h' : y.natAbs < 2 ^ n) : (x * y).natAbs < 2 ^ (m + n) := L2.wide_lt h h'
theorem up {x : Int} {m n : Nat} (h : x.natAbs < 2 ^ m) (hm : m ≤ n) : x.natAbs < 2 ^ n := Nat.lt_of_lt_of_le h (Nat.pow_le_pow_right (by decide) hm)
theorem cw {x y : Int} {m n : Nat} (h : x.natAbs < 2 ^ m) (h' : y.natAbs < 2 ^ n) (h0 : 0 < m := by decide) (h1 : 0 < n := by decide) (h2 : m + n ≤ 1000000 := by decide) : CMulW x y := mulW h h' h0 h1 h2
theorem lowest_eq {a b : Int} (h : 0 < b) (hs : b.natAbs < 2 ^ 8800) : l_lowest a b = .ok (lowT a b) := by
  have e0 : l_lowest a b = (l_shared a b).bind fun x1 => guardR (CDivW a x1) <| guardR (CDivW b x1) <| .ok (⟨(a / x1), (b / x1)⟩ : Fr) := rfl
  have e1 : l_shared a b = .ok (Int.gcd a b : Int) := div_ok a b
  rw [e0, e1]
  have hg : 0 < Int.gcd a b := Int.gcd_pos_of_ne_zero_right a (by omega)
  have es : shr a b = ((Int.gcd a b : Nat) : Int) := by unfold shr; rw [if_neg (by omega)]
  have hs2 := (shr_small (a := a) (b := b) (by omega)).2
  rw [es] at hs2
  have c : CDivW a ((Int.gcd a b : Nat) : Int) := divW (by omega) (b := 8800) (Nat.lt_of_le_of_lt hs2 hs)
  show guardR (CDivW a ((Int.gcd a b : Nat) : Int)) (guardR (CDivW b ((Int.gcd a b : Nat) : Int)) (.ok (⟨a / ((Int.gcd a b : Nat) : Int), b / ((Int.gcd a b : Nat) : Int)⟩ : Fr))) = _
  unfold guardR
  rw [if_pos c, if_pos (show CDivW b ((Int.gcd a b : Nat) : Int) from c)]
  unfold lowT
  rw [es, Int.fdiv_eq_ediv_of_nonneg a (by omega), Int.fdiv_eq_ediv_of_nonneg b (by omega)]
theorem frac_eq {a b : Int} (h : 0 < b) (hs : b.natAbs < 2 ^ 8800) : m_fraction (enc (a : Int)) (enc (b : Int)) = .ok (lowT a b) := fraction_eq (by omega) hs
/-- the law's fraction of a by b -/
theorem lowest_F {a b : Int} (h : 0 < b) (hs : b.natAbs < 2 ^ 8800) : l_lowest a b = .ok (F (Rat.divInt a b)) := by rw [lowest_eq h hs, lowT_F (by omega)]
section
variable {p q : Rat}
theorem Sz.a (h : Sz p) : (F p).a.natAbs < 2 ^ 4400 := h.1
theorem Sz.b (h : Sz p) : (F p).b.natAbs < 2 ^ 4400 := by show ((p.den : Int)).natAbs < 2 ^ 4400; rw [Int.natAbs_natCast]; exact h.2
theorem mplus (hp : Sz p) (hq : Sz q) : m_plus (F p) (F q) = .ok (F (p + q)) := by
  unfold m_plus guardR
  rw [if_pos (cw hp.a hq.b), if_pos (cw hq.a hp.b), if_pos (cw hp.b hq.b), frac_eq (Int.mul_pos (F_low p).1 (F_low q).1) (m2 hp.b hq.b)]
  exact congrArg Res.ok (lowT_add p q)
theorem mtimes (hp : Sz p) (hq : Sz q) : m_times (F p) (F q) = .ok (F (p * q)) := by
  unfold m_times guardR
  rw [if_pos (cw hp.a hq.a), if_pos (cw hp.b hq.b), frac_eq (Int.mul_pos (F_low p).1 (F_low q).1) (m2 hp.b hq.b)]
  exact congrArg Res.ok (lowT_mul p q)
theorem lplus (hp : Sz p) (hq : Sz q) : l_plus (F p) (F q) = .ok (F (p + q)) := by
  unfold l_plus guardR
  rw [if_pos (cw hp.a hq.b), if_pos (cw hq.a hp.b), if_pos (cw hp.b hq.b), lowest_eq (Int.mul_pos (F_low p).1 (F_low q).1) (m2 hp.b hq.b)]
  exact congrArg Res.ok (lowT_add p q)
theorem ltimes (hp : Sz p) (hq : Sz q) : l_times (F p) (F q) = .ok (F (p * q)) := by
  unfold l_times guardR
  rw [if_pos (cw hp.a hq.a), if_pos (cw hp.b hq.b), lowest_eq (Int.mul_pos (F_low p).1 (F_low q).1) (m2 hp.b hq.b)]
  exact congrArg Res.ok (lowT_mul p q)
theorem lt_F (p q : Rat) : decide ((F p).a * (F q).b < (F q).a * (F p).b) = decide (p < q) := decide_eq_decide.mpr (Rat.lt_iff p q).symm
theorem mless (hp : Sz p) (hq : Sz q) : m_less (F p) (F q) = .ok (decide (p < q)) := by
  unfold m_less guardR
  rw [if_pos (cw hp.a hq.b), if_pos (cw hq.a hp.b), lt_F]
end
/-! ## a fraction is compared, is none, is one -/
theorem eqF (p q : Rat) : eqD (enc (F p)) (enc (F q)) = decide (p = q) := by
  have e : eqD (enc (F p)) (enc (F q)) = (decide (p.num = q.num) && (decide ((p.den : Int) = (q.den : Int)) && true)) := rfl
  rw [e, Bool.and_true, ← Bool.decide_and]
  exact decide_eq_decide.mpr ⟨fun h => Rat.ext h.1 (by have := h.2; omega), fun h => by rw [h]; exact ⟨rfl, rfl⟩⟩
theorem okF (p q : Rat) : okEq (enc (F p)) (enc (F q)) := okEq_of rfl rfl
theorem okO (o o' : Option Rat) : okEq (enc (o.map F)) (enc (o'.map F)) := by cases o <;> cases o' <;> exact okEq_of rfl rfl
theorem eqO (o o' : Option Rat) : eqD (enc (o.map F)) (enc (o'.map F)) = decide (o = o') := by
  cases o with
  | none => cases o' <;> rfl
  | some p => cases o' with
    | none => rfl
    | some q =>
      have e : eqD (enc ((some p).map F)) (enc ((some q).map F)) = eqD (enc (F p)) (enc (F q)) := rfl
      rw [e, eqF]
      exact decide_eq_decide.mpr ⟨fun h => by rw [h], fun h => Option.some.inj h⟩
theorem isn (o : Option Rat) : isNonD (enc (o.map F)) = o.isNone := by cases o <;> rfl
theorem isfrac (p q : Int) : m_is_fraction (.tup [.int p, .int q]) = .ok (decide (0 < q) && decide (Int.gcd p q = 1)) := by
  have e : m_is_fraction (.tup [.int p, .int q]) = (if (decide (q < 1)) = true then .ok false else (m_divisor p q).bind fun x42 => .ok (decide (x42 = 1))) := rfl
  rw [e]
  by_cases h : q < 1
  · rw [if_pos (decide_eq_true h), decide_eq_false (by omega)]; rfl
  · rw [if_neg (by simpa using h), div_ok, decide_eq_true (by omega)]
    show Res.ok (decide (((Int.gcd p q : Nat) : Int) = 1)) = Res.ok (true && decide (Int.gcd p q = 1))
    rw [Bool.true_and]
    exact congrArg Res.ok (decide_eq_decide.mpr (by omega))
theorem isfracF (q : Rat) : m_is_fraction (enc (F q)) = .ok true := (isfrac _ _).trans (by rw [decide_eq_true (F_low q).1, decide_eq_true (F_low q).2]; rfl)
theorem ismomF {q : Rat} (h : 0 ≤ q) : m_is_moment (enc (F q)) = .ok true := by
  unfold m_is_moment
  rw [isfracF]
  show Res.ok (decide (0 ≤ q.num)) = _
  rw [decide_eq_true (Rat.num_nonneg.mpr h)]
theorem F0 : (⟨0, 1⟩ : Fr) = F 0 := rfl
theorem F1 : (⟨1, 1⟩ : Fr) = F 1 := rfl
/-- a good edit, of a size -/
structure Ge (D N : Nat) (e : Er) : Prop where
  g : GoodE e
  s : Dv D N e.s
  r : Dv D N e.r
  b : ∀ x, e.b = some x → Dv D N x
theorem Ge.to {D E N M : Nat} {e : Er} (h : Ge D N e) (hd : D ∣ E) (hn : N ≤ M) : Ge E M e := ⟨h.g, h.s.to hd hn, h.r.to hd hn, fun x q => (h.b x q).to hd hn⟩
theorem Sz0 : Sz 0 := ⟨by show (0 : Nat) < 2 ^ 4400; exact Nat.pow_pos (by decide), by show (1 : Nat) < 2 ^ 4400; exact Nat.one_lt_two_pow (by decide)⟩
theorem isedit {e : Er} (h : GoodE e) (hs : Sz e.s) : m_is_edit (enc (G e)) = .ok true := by
  have e1 : m_is_edit (enc (G e)) = (m_is_fraction (enc (F e.s))).bind fun x28 => (if x28 = true then (asD Fr (enc (F e.s))).bind fun x35 => (m_less (⟨0, 1⟩ : Fr) x35).bind fun x38 => (if x38 = true then (m_is_moment (enc (F e.r))).bind fun x44 => (if x44 = true then (if (isNonD (enc (e.b.map F))) = true then guardR (okEq (enc (F e.r)) (enc (⟨0, 1⟩ : Fr))) <| .ok (eqD (enc (F e.r)) (enc (⟨0, 1⟩ : Fr))) else (m_is_moment (enc (e.b.map F))).bind fun x51 => .ok x51) else .ok false) else .ok false) else .ok false) := rfl
  have ea : asD Fr (enc (F e.s)) = .ok (F e.s) := rfl
  have q : Ok (m_is_edit (enc (G e))) fun r => r = true := by
    rw [e1]
    refine Ok.bindE (isfracF _) (Ok.iteT rfl (Ok.bindE ea (Ok.bindE (by rw [F0]; exact mless Sz0 hs) (Ok.iteT (decide_eq_true h.s) (Ok.bindE (ismomF h.r) (Ok.iteT rfl ?_))))))
    cases eb : e.b with
    | none => exact Ok.iteT rfl (by rw [h.n eb]; exact Ok.guard (okEq_of rfl rfl) (Ok.pure (eqD_refl rfl)))
    | some x => exact Ok.iteF rfl (Ok.bindE (ismomF (q := x) (h.b x eb)) (Ok.pure rfl))
  obtain ⟨r, e, rfl⟩ := q
  exact e
theorem ledby_m {D N : Nat} {e : Er} {t : Rat} (b : Big D N) (h : Ge D N e) (ht : Dv D N t) : m_led_by (G e) (F t) = .ok ((byR e t).map F) := by
  unfold m_led_by byR
  show (if isNonD (enc (e.b.map F)) = true then _ else (m_times (F e.r) (F t)).bind fun x19 => (someR (e.b.map F)).bind fun x26 => (m_plus x26 x19).bind fun x29 => .ok (some x29)) = _
  cases eb : e.b with
  | none => rfl
  | some x =>
    rw [if_neg (show ¬ (isNonD (enc ((some x).map F)) = true) from fun z => nomatch z), mtimes (b.sz h.r) (b.sz ht)]
    show (m_plus (F x) (F (e.r * t))).bind _ = _
    rw [mplus (b.sz (h.b x eb)) (b.sz2 h.r ht)]
    rfl
theorem noErr_ok {α : Type} {m : Res α} {a : α} (h : m = .ok a) : m.noErr = .ok a := by rw [h]; rfl
end A

set_option Elab.async false
set_option linter.all false
set_option maxRecDepth 100000
set_option maxHeartbeats 2000000
namespace A
open PySem PySem.Spec PyProof.Rows L2 Y
open Y.Enc (enc)
/-! # tidy and what is tidy -/
theorem eqOk_ed (e : Ed) : eqOk 19 (enc e) = true := by
  obtain ⟨a, b, c⟩ := e
  cases b <;> rfl
theorem eqOk_eds (l : List Ed) : eqOk 20 (enc l) = true := by
  show eqOks 19 (l.map enc) = true
  induction l with
  | nil => rfl
  | cons x xs ih => show (eqOk 19 (enc x) && eqOks 19 (xs.map enc)) = true; rw [ih, eqOk_ed]; rfl
theorem flat_eds (l : List Ed) : flatD (enc l) = true := (eqOk_flat _ 20 (eqOk_eds l)).1
theorem eq_eds (l : List Ed) : eqD (enc l) (enc l) = true := eqD_refl (flat_eds l)
theorem ok_eds (l m : List Ed) : okEq (enc l) (enc m) := okEq_of (eqOk_eds l) (eqOk_eds m)
theorem ok_nil (l : List Ed) : okEq (enc l) (enc ([] : List D)) := okEq_of (eqOk_eds l) rfl
theorem eq_nil (l : List Ed) : eqD (enc l) (enc ([] : List D)) = l.isEmpty := by cases l <;> rfl
theorem ix_last {α : Type} {pre : List α} {f : α} : ixR (pre ++ [f]) (-1) = .ok f := by
  have e : ixN (pre ++ [f]).length (-1) = some pre.length := by
    unfold ixN
    rw [List.length_append, List.length_singleton]
    simp
    constructor <;> omega
  unfold ixR atI
  rw [e]
  simp
theorem popE_last {α : Type} {pre : List α} {f : α} : popE (pre ++ [f]) = .ok (f, pre) := by
  unfold popE
  simp
/-- a loop over g's of things; I of the things that are left -/
theorem Ok.forM {α β S R : Type} {g : β → α} {f : α → S → Res (Fl S R)} (I : List β → S → Prop) (hf : ∀ x xs s, I (x :: xs) s → Ok (f (g x) s) fun r => ∃ s', r = .nx s' ∧ I xs s') : ∀ {l : List β} {s : S}, I l s → Ok (forR (l.map g) s f) fun r => ∃ s', r = .nx s' ∧ I [] s'
  | [], s, h => ⟨_, rfl, s, rfl, h⟩
  | x :: xs, s, h => by
    refine Ok.bind (hf x xs s h) ?_
    rintro r ⟨s', rfl, h'⟩
    exact Ok.forM I hf h'
theorem goes_m {D N : Nat} {e f : Er} (b : Big D N) (he : Ge D N e) (hs : Dv D N e.s) : m_goes_on (G e) (G f) = .ok (onB e f) := by
  have e0 : m_goes_on (G e) (G f) = ((if (isNonD (enc (e.b.map F))) = true then .ok true else .ok (isNonD (enc (f.b.map F)))) : Res Bool).bind fun b16 => (if b16 = true then (if (isNonD (enc (e.b.map F))) = true then .ok (isNonD (enc (f.b.map F))) else .ok false) else guardR (okEq (enc (F e.r)) (enc (F f.r))) <| (if (eqD (enc (F e.r)) (enc (F f.r))) = true then (m_led_by (G e) (F e.s)).bind fun x56 => guardR (okEq (enc (f.b.map F)) (enc x56)) <| .ok (eqD (enc (f.b.map F)) (enc x56)) else .ok false)) := rfl
  rw [e0, ledby_m b he hs]
  unfold onB byR
  cases eb : e.b with
  | none => cases fb : f.b <;> rfl
  | some x => cases fb : f.b with
    | none => rfl
    | some y =>
      show guardR (okEq (enc (F e.r)) (enc (F f.r))) (if (eqD (enc (F e.r)) (enc (F f.r))) = true then guardR (okEq (enc ((some y).map F)) (enc ((some (x + e.r * e.s)).map F))) (.ok (eqD (enc ((some y).map F)) (enc ((some (x + e.r * e.s)).map F)))) else .ok false) = .ok (decide (e.r = f.r) && decide (y = x + e.r * e.s))
      rw [eqF, eqO]
      unfold guardR
      rw [if_pos (okF _ _), if_pos (okO _ _)]
      by_cases c : e.r = f.r
      · rw [if_pos (decide_eq_true c), decide_eq_true c, Bool.true_and]
        exact congrArg Res.ok (decide_eq_decide.mpr ⟨fun h => Option.some.inj h, fun h => by rw [h]⟩)
      · rw [if_neg (by simpa using c), decide_eq_false c]
        rfl
theorem push_ge {D N M : Nat} {st : List Er} {e : Er} (h : ∀ x ∈ st, Ge D N x) (he : Ge D M e) : ∀ x ∈ pushR st e, Ge D (N + M) x := by
  intro x m
  unfold pushR at m
  cases st with
  | nil => rw [List.mem_singleton.mp m]; exact he.to (Nat.dvd_refl _) (by omega)
  | cons a r =>
    simp only at m
    by_cases c : onB a e = true
    · rw [if_pos c] at m
      rcases List.mem_cons.mp m with rfl | m
      · have ha := h a List.mem_cons_self
        exact ⟨⟨by show 0 < a.s + e.s; have := ha.g.s; have := he.g.s; grind, ha.g.r, ha.g.b, ha.g.n⟩, ha.s.add he.s, ha.r.up (by omega), fun x q => (ha.b x q).up (by omega)⟩
      · exact (h x (List.mem_cons_of_mem _ m)).to (Nat.dvd_refl _) (by omega)
    · rw [if_neg c] at m
      rcases List.mem_cons.mp m with rfl | m
      · exact he.to (Nat.dvd_refl _) (by omega)
      · exact (h x m).to (Nat.dvd_refl _) (by omega)
theorem push_len (st : List Er) (e : Er) : (pushR st e).length ≤ st.length + 1 := by
  unfold pushR
  cases st with
  | nil => exact Nat.le_refl _
  | cons a r =>
    simp only
    split
    · exact Nat.le_succ _
    · exact Nat.le_refl _
theorem fold_len : ∀ (l st : List Er), (l.foldl pushR st).length ≤ st.length + l.length
  | [], st => Nat.le_refl _
  | e :: l, st => by
    have h1 := fold_len l (pushR st e)
    have h2 := push_len st e
    show (l.foldl pushR (pushR st e)).length ≤ st.length + (l.length + 1)
    omega
theorem noLast_len (st : List Er) : (noLast st).length ≤ st.length := by
  cases st with
  | nil => exact Nat.le_refl _
  | cons a r =>
    rw [noLast_cons]
    split
    · exact Nat.le_succ _
    · exact Nat.le_refl _
theorem tidy_len (l : List Er) : (tidyR l).length ≤ l.length := by
  unfold tidyR
  rw [List.length_reverse]
  have h1 := fold_len l []
  have h2 := noLast_len (l.foldl pushR [])
  have : ([] : List Er).length = 0 := rfl
  omega
theorem tidy_adj : ∀ {l : List Er}, TidyR l → ∀ (k : Nat) (e f : Er), l[k]? = some e → l[k + 1]? = some f → onB e f = false
  | [], _, k, e, f, h, _ => by simp at h
  | [a], _, 0, e, f, _, h => by simp at h
  | [a], _, k + 1, e, f, h, _ => by simp at h
  | a :: c :: l, t, 0, e, f, h1, h2 => by
    simp at h1 h2
    subst h1 h2
    exact t.1
  | a :: c :: l, t, k + 1, e, f, h1, h2 => tidy_adj (l := c :: l) t.2 k e f (by simpa using h1) (by simpa using h2)
theorem tidy_last : ∀ {pre : List Er} {e : Er}, TidyR (pre ++ [e]) → e.b ≠ none
  | [], e, h => h
  | [a], e, h => h.2
  | a :: c :: l, e, h => tidy_last (pre := c :: l) h.2
theorem nil_or (l : List Er) : l = [] ∨ ∃ pre e, l = pre ++ [e] := by
  rcases List.eq_nil_or_concat l with h | ⟨pre, e, h⟩
  · exact .inl h
  · exact .inr ⟨pre, e, by rw [h, List.concat_eq_append]⟩
theorem Ok.ixG {γ δ : Type} {l : List Er} {i : Int} {k : Ed → Res δ} {ψ : δ → Prop} (h0 : 0 ≤ i) (h1 : i < (l.length : Int)) (h : ∀ e, e ∈ l → l[i.toNat]? = some e → Ok (k (G e)) ψ) : Ok ((ixR (l.map G) i).bind k) ψ := by
  refine Ok.ix h0 (by rw [List.length_map]; exact h1) fun x m q => ?_
  rw [List.getElem?_map] at q
  cases e : l[i.toNat]? with
  | none => rw [e] at q; exact nomatch q
  | some y =>
    rw [e] at q
    cases q
    exact h y (List.mem_of_getElem? e) e
theorem mem_rngI {lo hi x : Int} (h : x ∈ rngI lo hi) : lo ≤ x ∧ x < hi := by
  unfold rngI at h
  obtain ⟨i, m, rfl⟩ := List.mem_map.mp h
  have := List.mem_range.mp m
  omega
end A

set_option Elab.async false
set_option linter.all false
set_option maxRecDepth 100000
set_option maxHeartbeats 2000000
namespace A
open PySem PySem.Spec PyProof.Rows L2 Y
open Y.Enc (enc)
/-! # drawn edits -/
def D0 : Nat := 11964035892
def N0 : Nat := 1000000000
def N1 : Nat := 1000000001
def DD : Nat := D0 * D0
def NN : Nat := 20000000000000000000
/-- a moment, of a size -/
def Mo (D N : Nat) (f : Fr) : Prop := ∃ q : Rat, f = F q ∧ 0 ≤ q ∧ Dv D N q
theorem Mo.to {D E N M : Nat} {f : Fr} (h : Mo D N f) (hd : D ∣ E) (hn : N ≤ M) : Mo E M f := by
  obtain ⟨q, e, h0, h⟩ := h
  exact ⟨q, e, h0, h.to hd hn⟩
theorem Mo.div {D N : Nat} {a b : Int} (ha : 0 ≤ a) (hb : 0 < b) (hd : b.toNat ∣ D) (h : a.toNat ≤ N * b.toNat) : Mo D N (F (Rat.divInt a b)) :=
  ⟨_, rfl, Rat.divInt_nonneg ha (Int.le_of_lt hb), Dv.of hb hd (by rw [show a.natAbs = a.toNat by omega]; exact h)⟩
theorem Mo.int {D N : Nat} {a : Int} (ha : 0 ≤ a) (h : a.toNat ≤ N) : Mo D N (⟨a, 1⟩ : Fr) :=
  ⟨(a : Rat), rfl, Rat.intCast_nonneg.mpr ha, Dv.int (by omega)⟩
/-- a fraction that the law makes -/
theorem Ok.low {β : Type} {a b : Int} {k : Fr → Res β} {ψ : β → Prop} (hb : 0 < b) (hs : b < 18446744073709551616) (h : Ok (k (F (Rat.divInt a b))) ψ) : Ok ((l_lowest a b).bind k) ψ :=
  Ok.bindE (lowest_F hb (Nat.lt_of_lt_of_le (show b.natAbs < 2 ^ 64 by omega) (Nat.pow_le_pow_right (by decide) (by decide)))) h
theorem dvd14 {x : Int} (h0 : 0 ≤ x) (h : x < 4) : (1 + x).toNat ∣ D0 := by
  have : x = 0 ∨ x = 1 ∨ x = 2 ∨ x = 3 := by omega
  rcases this with rfl | rfl | rfl | rfl <;> decide
theorem amount_ok {st : List Int} (h : Gd st) : Ok (l_amount st) fun r => Mo D0 N0 r.1 ∧ r.2.length = 3 := by
  unfold l_amount
  refine dg h (by decide) (bg (by decide)) fun x1 s1 a1 b1 h1 => ?_
  refine dg (gd3 h1) (by decide) (bg (by decide)) fun x2 s2 a2 b2 h2 => ?_
  refine dg (gd3 h2) (by decide) (bg (by decide)) fun x3 s3 a3 b3 h3 => ?_
  refine Ok.low (by omega) (by omega) ?_
  refine dg (gd3 h3) (by decide) (bg (by decide)) fun x4 s4 a4 b4 h4 => ?_
  refine dg (gd3 h4) (by decide) (bg (by decide)) fun x5 s5 a5 b5 h5 => ?_
  refine Ok.low (by decide) (by decide) ?_
  refine dg (gd3 h5) (by decide) (bg (by decide)) fun x6 s6 a6 b6 h6 => ?_
  refine Ok.low (by decide) (by decide) ?_
  refine dg (gd3 h6) (by decide) (bg (by decide)) fun x7 s7 a7 b7 h7 => ?_
  refine Ok.ixm a1 b1 fun z m => Ok.pure ⟨?_, h7⟩
  have c1 : Mo D0 N0 (F (Rat.divInt x2 (1 + x3))) := Mo.div a2 (by omega) (dvd14 a3 b3) (by unfold N0; omega)
  have c2 : Mo D0 N0 (F (Rat.divInt (x4 * 1000000 + x5) 1000003)) := Mo.div (by omega) (by decide) (by decide) (by unfold N0; omega)
  have c3 : Mo D0 N0 (F (Rat.divInt x6 997)) := Mo.div a6 (by decide) (by decide) (by unfold N0; omega)
  have c4 : Mo D0 N0 (⟨x7, 1⟩ : Fr) := Mo.int a7 (by unfold N0; omega)
  have c5 : Mo D0 N0 (⟨0, 1⟩ : Fr) := Mo.int (by decide) (by decide)
  simp only [List.mem_cons, List.not_mem_nil, or_false] at m
  rcases m with rfl | rfl | rfl | rfl | rfl | rfl | rfl <;> assumption
/-- an edit as drawn -/
structure GX (N : Nat) (e : Er) : Prop where
  g : GoodE e
  s : Dv D0 N1 e.s
  r : Dv D0 N0 e.r
  b : ∀ x, e.b = some x → Dv DD N x
theorem GX.up {N M : Nat} {e : Er} (h : GX N e) (hn : N ≤ M) : GX M e := ⟨h.g, h.s, h.r, fun x q => (h.b x q).up hn⟩
theorem GX.ge {N : Nat} {e : Er} (h : GX N e) (hn : N ≤ NN) : Ge DD NN e := ⟨h.g, h.s.to (Nat.dvd_mul_right ..) (by decide), h.r.to (Nat.dvd_mul_right ..) (by decide), fun x q => (h.b x q).up hn⟩
theorem low64 {n : Nat} (h : n < 2 ^ 256) : n < 2 ^ 400 := pow_up h (by decide)
theorem big_of {D N : Nat} (hp : 0 < D := by decide) (hd : D < 2 ^ 256 := by decide) (hn : N < 2 ^ 256 := by decide) : Big D N := ⟨hp, pow_up hd (by decide), low64 hn⟩
theorem bigDN2 {l : List Er} (hl : l.length ≤ 6) : Big DD (NN * (l.length + 1)) := ⟨(big_of (D := DD) (N := 0)).p, (big_of (D := DD) (N := 0)).d, Nat.lt_of_le_of_lt (Nat.mul_le_mul_left _ (show l.length + 1 ≤ 7 by omega)) (big_of (D := DD) (N := NN * 7)).n⟩
theorem big00 : Big D0 N1 := big_of
theorem bigDN : Big DD NN := big_of
theorem mo01 : Mo D0 N0 (⟨0, 1⟩ : Fr) := Mo.int (by decide) (by decide)
theorem edit_ok {st : List Int} {l : List Er} {N : Nat} (h : Gd st) (hN : N0 ≤ N) (hk : N ≤ NN) (hl : ∀ e ∈ l, GX N e) (hlen : l.length ≤ 100000) : Ok (l_edit st (l.map G)) fun r => (∃ e, r.1 = G e ∧ GX (N + N0 * N1) e) ∧ r.2.length = 3 := by
  unfold l_edit
  refine dg h (by decide) (bg (by decide)) fun x1 s1 a1 b1 h1 => ?_
  refine Ok.bind (amount_ok (gd3 h1)) fun ⟨am, s2⟩ ⟨⟨q1, eq1, q10, q1d⟩, h2⟩ => ?_
  refine dg (gd3 h2) (by decide) (bg (by decide)) fun x3 s3 a3 b3 h3 => ?_
  refine Ok.low (by omega) (by omega) ?_
  have bq : Dv D0 1 (Rat.divInt 1 (1 + x3)) := Dv.of (by omega) (dvd14 a3 (by omega)) (by show 1 ≤ 1 * _; omega)
  have pq : 0 < Rat.divInt 1 (1 + x3) := by
    have h0 : 0 ≤ Rat.divInt 1 (1 + x3) := Rat.divInt_nonneg (by decide) (by omega)
    have h1 : Rat.divInt 1 (1 + x3) ≠ 0 := by
      rw [Rat.divInt_eq_div, Rat.div_def]
      intro z
      rcases Rat.mul_eq_zero.mp z with z | z
      · exact absurd z (by decide)
      · have h3 : ((1 + x3 : Int) : Rat) ≠ 0 := fun y => by have := Rat.intCast_eq_zero_iff.mp y; omega
        have h4 := Rat.mul_inv_cancel _ h3
        rw [z, Rat.mul_zero] at h4
        exact absurd h4 (by decide)
    grind
  subst eq1
  refine Ok.bindE (lplus (big00.sz (q1d.up (by decide))) (big00.sz (bq.up (by decide)))) ?_
  simp only
  have bs : Dv D0 N1 (q1 + Rat.divInt 1 (1 + x3)) := (q1d.add bq).up (by decide)
  have ps : 0 < q1 + Rat.divInt 1 (1 + x3) := by grind
  generalize q1 + Rat.divInt 1 (1 + x3) = sp at *
  refine Ok.bind (amount_ok (gd3 h3)) fun ⟨stt, s4⟩ ⟨⟨q2, eq2, q20, q2d⟩, h4⟩ => ?_
  refine Ok.bind (amount_ok (gd3 h4)) fun ⟨rt, s5⟩ ⟨brt, h5⟩ => ?_
  refine dg (gd3 h5) (by decide) (bg (by decide)) fun x6 s6 a6 b6 h6 => Ok.ixm a6 b6 fun rate m => ?_
  have br : Mo D0 N0 rate := by
    have d1 : Mo D0 N0 (⟨1, 1⟩ : Fr) := Mo.int (by decide) (by decide)
    have d2 : Mo D0 N0 (⟨0, 1⟩ : Fr) := Mo.int (by decide) (by decide)
    have d3 : Mo D0 N0 (⟨2, 1⟩ : Fr) := Mo.int (by decide) (by decide)
    have d4 : Mo D0 N0 (⟨1, 2⟩ : Fr) := ⟨Rat.divInt 1 2, (low_eq (f := ⟨1, 2⟩) (a := 1) (b := 2) ⟨by decide, by decide⟩ (by decide) (by decide)).symm.trans (lowT_F (by decide)), Rat.divInt_nonneg (by decide) (by decide), Dv.of (by decide) (by decide) (by decide)⟩
    simp only [List.mem_cons, List.not_mem_nil, or_false] at m
    rcases m with rfl | rfl | rfl | rfl | rfl | rfl <;> assumption
  have DDd : D0 ∣ DD := Nat.dvd_mul_right ..
  obtain ⟨rr, err, rr0, rrd⟩ := br
  refine Ok.ite (fun _ => Ok.pure ⟨⟨⟨sp, none, 0⟩, rfl, ⟨ps, Rat.le_refl, (fun x q => nomatch q), fun _ => rfl⟩, bs, Dv.int (a := 0) (by decide), (fun x q => nomatch q)⟩, h6⟩) fun _ => ?_
  refine Ok.bind (φ := fun b => b = true → ∃ pre e s, l = pre ++ [e] ∧ e.b = some s) (Ok.ite (fun _ => Ok.guard (ok_nil _) (Ok.ite (fun c => ?_) fun _ => Ok.pure fun z => nomatch z)) fun _ => Ok.pure fun z => nomatch z) fun b hb => Ok.ite (fun c => ?_) fun _ => ?_
  · rcases nil_or l with rfl | ⟨pre, e, rfl⟩
    · exact nomatch c
    · rw [List.map_append]
      refine Ok.bindE (show ixR (pre.map G ++ [G e]) (-1) = .ok (G e) from ix_last) (Ok.pure fun z => ⟨pre, e, ?_⟩)
      cases eb : e.b with
      | none =>
        have : (!isNonD (enc (e.b.map F))) = true := z
        rw [eb] at this
        exact nomatch this
      | some s => exact ⟨s, rfl, rfl⟩
  · obtain ⟨pre, e, s, rfl, eb⟩ := hb c
    have ge := hl e (List.mem_append_right _ (List.mem_singleton.mpr rfl))
    have bss := ge.b s eb
    have es : someR (G e).b = .ok (F s) := by show someR (e.b.map F) = _; rw [eb]; rfl
    rw [List.map_append]
    refine Ok.bindE (show ixR (pre.map G ++ [G e]) (-1) = .ok (G e) from ix_last) (Ok.bindE (ltimes (big00.sz (ge.r.up (by decide))) (big00.sz ge.s)) (Ok.bindE es ?_))
    refine Ok.bindE (lplus (bigDN.sz (bss.up hk)) (big00.sz2 (ge.r.up (by decide)) ge.s)) (Ok.pure ⟨⟨⟨sp, some (s + e.r * e.s), e.r⟩, rfl, ⟨ps, ge.g.r, fun x q => ?_, fun q => nomatch q⟩, bs, ge.r, fun x q => ?_⟩, h6⟩)
    · cases q
      have := ge.g.b s eb
      have := Rat.mul_nonneg ge.g.r (show 0 ≤ e.s by have := ge.g.s; grind)
      grind
    · cases q
      exact bss.add (ge.r.mul ge.s)
  · subst err eq2
    exact Ok.pure ⟨⟨⟨sp, some q2, rr⟩, rfl, ⟨ps, rr0, (fun x q => by cases q; exact q20), fun q => nomatch q⟩, bs, rrd, fun x q => by cases q; exact q2d.to DDd (by omega)⟩, h6⟩
theorem forN {α S R : Type} {f : α → S → Res (Fl S R)} (N : Nat) (I : Nat → S → Prop) : ∀ {l : List α}, (∀ x s i, x ∈ l → i < N → I i s → Ok (f x s) fun r => ∃ s', r = .nx s' ∧ I (i + 1) s') → ∀ {s i}, i + l.length ≤ N → I i s → Ok (forR l s f) fun r => ∃ s', r = .nx s' ∧ I (i + l.length) s' := by
  intro l
  induction l with
  | nil => intro _ s i _ h; exact ⟨_, rfl, s, rfl, h⟩
  | cons x xs ih =>
    intro hf s i hk h
    have hk' : i + (xs.length + 1) ≤ N := hk
    refine Ok.bind (hf x s i List.mem_cons_self (by omega) h) ?_
    rintro r ⟨s', rfl, h'⟩
    refine (ih (fun y s i m => hf y s i (List.mem_cons_of_mem _ m)) (i := i + 1) (by omega) h').mono ?_
    rintro r ⟨s2, e, q⟩
    exact ⟨s2, e, by rw [show i + (x :: xs).length = i + 1 + xs.length from by rw [List.length_cons]; omega]; exact q⟩
theorem rngI_len (n : Int) : (rngI 0 n).length = n.toNat := by unfold rngI; simp
theorem edits_okX {st : List Int} {n : Int} (h : Gd st) (hn0 : 0 ≤ n) (hn : n ≤ 12) : Ok (l_edits st n) fun r => (∃ l : List Er, r.1 = l.map G ∧ l.length ≤ n.toNat ∧ ∀ e ∈ l, GX NN e) ∧ r.2.length = 3 := by
  unfold l_edits
  refine dg h (by omega) (bg (by omega)) fun x1 s1 a1 b1 h1 => Ok.guard (by omega) ?_
  have NN_ : ∀ i, i < 12 → N0 + N0 * N1 * (i + 1) ≤ NN := fun i hi => by unfold N0 N1 NN; omega
  refine Ok.bind (forN 12 (fun i (s : List Ed × List Int) => ∃ l : List Er, s.1 = l.map G ∧ l.length = i ∧ s.2.length = 3 ∧ ∀ e ∈ l, GX (N0 + N0 * N1 * i) e) (fun x s i _ hi hI => ?_) (i := 0) (by rw [rngI_len]; omega) ⟨[], rfl, rfl, h1, fun _ m => nomatch m⟩) ?_
  · obtain ⟨l, e1, hl, h3, hg⟩ := hI
    obtain ⟨s1, s2⟩ := s
    simp only at e1 h3
    subst e1
    have hNi := NN_ i hi
    refine Ok.bind (edit_ok (gd3 h3) (Nat.le_add_right ..) (by rw [Nat.mul_add, Nat.mul_one] at hNi; omega) hg (by omega)) ?_
    rintro ⟨y, s3⟩ ⟨⟨e, ey, ge⟩, g2⟩
    simp only at ey g2
    subst ey
    refine Ok.guard (by rw [List.length_map]; omega) (Ok.pure ⟨_, rfl, l ++ [e], by rw [List.map_append]; rfl, by rw [List.length_append, hl]; rfl, g2, fun y m => ?_⟩)
    rcases List.mem_append.mp m with m | m
    · exact (hg y m).up (Nat.add_le_add_left (Nat.mul_le_mul_left _ (by omega)) _)
    · rw [List.mem_singleton.mp m]
      exact ge.up (by rw [Nat.mul_add, Nat.mul_one]; omega)
  · rintro _ ⟨s, rfl, l, e1, hl, h3, hg⟩
    rw [rngI_len] at hl hg
    refine Ok.pure ⟨⟨l, e1, by omega, fun e m => (hg e m).up ?_⟩, h3⟩
    exact Nat.le_trans (Nat.add_le_add_left (Nat.mul_le_mul_left _ (show 0 + x1.toNat ≤ 11 + 1 by omega)) _) (NN_ 11 (by decide))
theorem edits_ok {st : List Int} {n : Int} (h : Gd st) (hn0 : 0 ≤ n) (hn : n ≤ 12) : Ok (l_edits st n) fun r => (∃ l : List Er, r.1 = l.map G ∧ l.length ≤ n.toNat ∧ ∀ e ∈ l, Ge DD NN e) ∧ r.2.length = 3 :=
  (edits_okX h hn0 hn).mono fun r ⟨⟨l, e, hl, g⟩, h3⟩ => ⟨⟨l, e, hl, fun e m => (g e m).ge (Nat.le_refl _)⟩, h3⟩
end A

set_option Elab.async false
set_option linter.all false
set_option maxRecDepth 100000
set_option maxHeartbeats 2000000
namespace A
open PySem PySem.Spec PyProof.Rows L2 Y
open Y.Enc (enc)
section
variable {α β : Type} {m m' x : Res α}
theorem Is.bind {m : Res β} {k : β → Res α} {a : β} (e : m = .ok a) (h : k a = x) : m.bind k = x := by rw [e]; exact h
theorem Is.iteT {c : Bool} (hc : c = true) (h : m = x) : (if c = true then m else m') = x := by rw [if_pos hc]; exact h
theorem Is.iteF {c : Bool} (hc : c = false) (h : m' = x) : (if c = true then m else m') = x := by rw [hc]; exact h
theorem Is.guard {p : Prop} [Decidable p] (hp : p) (h : m = x) : guardR p m = x := by unfold guardR; rw [if_pos hp]; exact h
end
/-! # what is an edit, of any thing -/
def tE (x : D) : Bool := match m_is_edit x with | .ok b => b | _ => false
theorem edits_list {l : List D} (hl : l.length ≤ 1000000) (h : ∀ x ∈ l, ∃ b, m_is_edit x = .ok b) : m_is_edits (.lst l) = .ok (l.all tE) := by
  unfold m_is_edits
  refine Is.iteT (by decide +kernel : isS "list" "list" = true) (Is.bind (a := l) rfl ?_)
  rw [compR_map (g := tE) hl (fun x m => by
    obtain ⟨b, e⟩ := h x m
    unfold tE
    rw [e]
    rfl)]
  show Res.ok ((l.map tE).all id) = _
  rw [List.all_map]
  rfl
theorem good_e {D N : Nat} {e : Er} (b : Big D N) (h : Ge D N e) : m_is_edit (enc (G e)) = .ok true := isedit h.g (b.sz h.s)
theorem edits_good {l : List Er} (hl : l.length ≤ 1000000) (h : ∀ e ∈ l, GoodE e ∧ Sz e.s) : m_is_edits (enc (l.map G)) = .ok true := by
  have hm : ∀ x ∈ (l.map G).map enc, m_is_edit x = .ok true := fun x m => by
    obtain ⟨g, mg, rfl⟩ := List.mem_map.mp m
    obtain ⟨e, me, rfl⟩ := List.mem_map.mp mg
    exact isedit (h e me).1 (h e me).2
  have := edits_list (l := (l.map G).map enc) (by rw [List.length_map, List.length_map]; exact hl) fun x m => ⟨_, hm x m⟩
  show m_is_edits (.lst ((l.map G).map enc)) = _
  rw [this]
  refine congrArg Res.ok (List.all_eq_true.mpr fun x m => ?_)
  unfold tE
  rw [hm x m]
theorem sure_eA {l : List Er} (hl : l.length ≤ 1000000) (h : ∀ e ∈ l, GoodE e ∧ Sz e.s) : m_sure_edits (enc (l.map G)) = .ok () := by
  unfold m_sure_edits
  rw [edits_good hl h]
  rfl
theorem tidy_mA {D N : Nat} {l : List Er} (hl : l.length ≤ 100000) (b : Big D (N * (l.length + 1))) (h : ∀ e ∈ l, Ge D N e) : m_tidy (l.map G) = .ok ((tidyR l).map G) ∧ ∀ e ∈ tidyR l, Ge D (N * (l.length + 1)) e := by
  have bN : Big D N := ⟨b.p, b.d, Nat.lt_of_le_of_lt (Nat.le_mul_of_pos_right _ (Nat.succ_pos _)) b.n⟩
  suffices q : Ok (m_tidy (l.map G)) fun r => r = (tidyR l).map G ∧ ∀ e ∈ tidyR l, Ge D (N * (l.length + 1)) e by
    obtain ⟨r, e, rfl, h⟩ := q
    exact ⟨e, h⟩
  unfold m_tidy
  refine Ok.bindE (sure_eA (by omega) fun e m => ⟨(h e m).g, bN.sz (h e m).s⟩) ?_
  refine Ok.bind (Ok.forM (fun xs s => ∃ st i, s = st.reverse.map G ∧ (∀ x ∈ st, Ge D (N * i) x) ∧ (∀ x ∈ xs, Ge D N x) ∧ xs.foldl pushR st = l.foldl pushR [] ∧ i + xs.length ≤ l.length ∧ st.length + xs.length ≤ 100000) ?_ (l := l) ⟨[], 0, rfl, fun _ m => (nomatch m), h, rfl, by omega, by show 0 + _ ≤ _; omega⟩) ?_
  · rintro x xs s ⟨st, i, rfl, h1, h2, h3, h4, h5⟩
    have hx := h2 x List.mem_cons_self
    have h4' : i + (xs.length + 1) ≤ l.length := h4
    have h5' : st.length + (xs.length + 1) ≤ 100000 := h5
    have bi : Big D (N * (i + 1)) := ⟨b.p, b.d, Nat.lt_of_le_of_lt (Nat.mul_le_mul_left _ (by omega)) b.n⟩
    have hn : N ≤ N * (i + 1) := Nat.le_mul_of_pos_right _ (Nat.succ_pos _)
    have done : ∃ st' i, (pushR st x).reverse.map G = st'.reverse.map G ∧ (∀ x ∈ st', Ge D (N * i) x) ∧ (∀ x ∈ xs, Ge D N x) ∧ xs.foldl pushR st' = l.foldl pushR [] ∧ i + xs.length ≤ l.length ∧ st'.length + xs.length ≤ 100000 :=
      ⟨pushR st x, i + 1, rfl, fun y m => (push_ge h1 hx y m).to (Nat.dvd_refl _) (by rw [Nat.mul_add, Nat.mul_one]; exact Nat.le_refl _), fun y m => h2 y (List.mem_cons_of_mem _ m), h3, by omega, by have := push_len st x; omega⟩
    have gl : ∀ (pre : List Er) (y : Er), pre.length ≤ 100000 → Ok (guardR ((pre.map G).length < 1000000) (.ok (.nx (pre.map G ++ [G y])) : Res (Fl (List Ed) (List Ed)))) fun r => r = .nx ((pre ++ [y]).map G) := fun pre y hp => Ok.guard (by rw [List.length_map]; omega) (Ok.pure (by rw [List.map_append]; rfl))
    cases st with
    | nil =>
      refine Ok.bind (φ := fun r => r = (G x, ([] : List Ed))) (Ok.bind (φ := fun c => c = false) (Ok.guard (ok_nil _) (Ok.iteF rfl (Ok.pure rfl))) ?_) ?_
      · rintro _ rfl
        exact Ok.iteF rfl (Ok.pure rfl)
      · rintro _ rfl
        refine (gl [] x (by show 0 ≤ _; omega)).mono ?_
        rintro _ rfl
        exact ⟨_, rfl, done⟩
    | cons a r =>
      have ha := h1 a List.mem_cons_self
      have hai : Ge D (N * (i + 1)) a := ha.to (Nat.dvd_refl _) (Nat.mul_le_mul_left _ (by omega))
      have er : ((a :: r).reverse).map G = r.reverse.map G ++ [G a] := by rw [List.reverse_cons, List.map_append]; rfl
      have hr : r.reverse.length ≤ 100000 := by rw [List.length_reverse]; have : (a :: r).length = r.length + 1 := rfl; omega
      have ne : (!(eqD (enc (r.reverse.map G ++ [G a])) (enc ([] : List Y.D)))) = true := by rw [eq_nil]; simp
      rw [er]
      refine Ok.bind (φ := fun p => p.2 ++ [p.1] = (pushR (a :: r) x).reverse.map G ∧ p.2.length < 1000000) (Ok.bind (φ := fun c => c = onB a x) (Ok.guard (ok_nil _) (Ok.iteT ne (Ok.bindE ix_last (Ok.bindE (goes_m bi hai hai.s) (Ok.pure rfl))))) ?_) ?_
      · rintro _ rfl
        refine Ok.ite (fun c => ?_) fun c => ?_
        · refine Ok.bindE popE_last ?_
          refine Ok.bindE (mplus (bi.sz hai.s) (bi.sz (hx.s.up hn))) (Ok.pure ⟨?_, by show (r.reverse.map G).length < _; rw [List.length_map]; omega⟩)
          have : pushR (a :: r) x = mergeR a x :: r := if_pos c
          rw [this, List.reverse_cons, List.map_append]
          rfl
        · refine Ok.pure ⟨?_, by show (r.reverse.map G ++ [G a]).length < _; rw [List.length_append, List.length_map]; show _ + 1 < _; omega⟩
          have : pushR (a :: r) x = x :: a :: r := if_neg (by rw [c]; exact Bool.false_ne_true)
          rw [this, List.reverse_cons (a := x), List.map_append, ← er]
          rfl
      · rintro p ⟨e, hp⟩
        refine Ok.guard hp (Ok.pure ⟨_, rfl, ?_⟩)
        rw [e]
        exact done
  · rintro _ ⟨s, rfl, st, i, rfl, h1, _, h3, h4, h5⟩
    have h3' : st = l.foldl pushR [] := h3
    have hi : i ≤ l.length := h4
    have hge : ∀ e ∈ tidyR l, Ge D (N * (l.length + 1)) e := fun e m => by
      have m' := noLast_mem (List.mem_reverse.mp m)
      rw [← h3'] at m'
      exact (h1 e m').to (Nat.dvd_refl _) (Nat.mul_le_mul_left _ (by omega))
    have et : tidyR l = (noLast st).reverse := by unfold tidyR; rw [← h3']
    show Ok (Res.bind _ _) _
    rw [et] at hge ⊢
    cases st with
    | nil =>
      refine Ok.bind (φ := fun r => r = ([] : List Ed)) (Ok.bind (φ := fun c => c = false) (Ok.guard (ok_nil _) (Ok.iteF rfl (Ok.pure rfl))) ?_) ?_
      · rintro _ rfl
        exact Ok.iteF rfl (Ok.pure rfl)
      · rintro _ rfl
        exact Ok.pure ⟨rfl, hge⟩
    | cons a r =>
      have er : ((a :: r).reverse).map G = r.reverse.map G ++ [G a] := by rw [List.reverse_cons, List.map_append]; rfl
      have ne : (!(eqD (enc (r.reverse.map G ++ [G a])) (enc ([] : List Y.D)))) = true := by rw [eq_nil]; simp
      rw [er]
      refine Ok.bind (φ := fun r' => r' = ((noLast (a :: r)).reverse).map G) (Ok.bind (φ := fun c => c = a.b.isNone) (Ok.guard (ok_nil _) (Ok.iteT ne (Ok.bindE ix_last (Ok.pure (isn a.b))))) ?_) ?_
      · rintro _ rfl
        rw [noLast_cons]
        refine Ok.ite (fun c => ?_) fun c => ?_
        · rw [if_pos (Option.isNone_iff_eq_none.mp c)]
          exact Ok.bindE popE_last (Ok.pure rfl)
        · rw [if_neg (fun z => by rw [z] at c; exact nomatch c), er]
          exact Ok.pure rfl
      · rintro _ rfl
        exact Ok.pure ⟨rfl, hge⟩
theorem total_mA {D N : Nat} {l : List Er} (hl : l.length ≤ 1000000) (b : Big D (N * (l.length + 1))) (h : ∀ e ∈ l, Ge D N e) : m_total (l.map G) = .ok (F (sumR l)) := by
  suffices q : Ok (m_total (l.map G)) fun r => r = F (sumR l) by
    obtain ⟨r, e, rfl⟩ := q
    exact e
  have hN : N ≤ N * (l.length + 1) := Nat.le_mul_of_pos_right _ (Nat.succ_pos _)
  unfold m_total
  refine Ok.bindE (sure_eA hl fun e m => ⟨(h e m).g, b.sz ((h e m).s.up hN)⟩) ?_
  refine Ok.bind (Ok.forM (fun xs (s : Fr) => ∃ q i, s = F q ∧ q + sumR xs = sumR l ∧ Dv D (N * i) q ∧ i + xs.length ≤ l.length ∧ ∀ e ∈ xs, Ge D N e) ?_ (l := l) ⟨0, 0, rfl, by grind, Dv.int (a := 0) (Nat.zero_le _), by omega, h⟩) ?_
  · rintro e xs s ⟨q, i, rfl, hs, dq, hi, gx⟩
    have he := gx e List.mem_cons_self
    have hs' : q + (e.s + sumR xs) = sumR l := hs
    have hi' : i + (xs.length + 1) ≤ l.length := hi
    refine Ok.bindE (mplus (b.sz (dq.up (Nat.mul_le_mul_left _ (by omega)))) (b.sz (he.s.up hN))) (Ok.pure ⟨_, rfl, q + e.s, i + 1, rfl, by grind, by rw [Nat.mul_succ]; exact dq.add he.s, by omega, fun y m => gx y (List.mem_cons_of_mem _ m)⟩)
  · rintro _ ⟨_, rfl, q, i, rfl, hs, _⟩
    have : q + 0 = sumR l := hs
    exact Ok.pure (by rw [show q = sumR l by grind])
/-! # what is none -/
theorem nofrac {d : D} (h : ∀ p q : Int, d ≠ .tup [.int p, .int q]) : m_is_fraction d = .ok false := by
  unfold m_is_fraction
  cases d with
  | tup l =>
    refine Is.iteT (by decide +kernel : isS "tuple" "tuple" = true) (Is.bind (a := l) rfl ?_)
    match l with
    | [] => rfl
    | [_] => rfl
    | [a, b] =>
      refine Is.iteF rfl (Is.bind (a := [a, b]) rfl (Is.guard rfl (Is.bind (a := a) rfl (Is.bind (a := b) rfl ?_))))
      have num : ∀ x : D, (∀ i, x ≠ .int i) → m_is_number x = .ok false := fun x hx => by
        unfold m_is_number
        cases x with
        | int i => exact absurd rfl (hx i)
        | bl b => exact Is.iteT (by decide +kernel : isS "bool" "int" = true) (congrArg Res.ok (by decide +kernel : (!(isS "bool" "bool")) = false))
        | non => exact Is.iteF (by decide +kernel : isS "NoneType" "int" = false) rfl
        | str y => exact Is.iteF (by decide +kernel : isS "str" "int" = false) rfl
        | lst y => exact Is.iteF (by decide +kernel : isS "list" "int" = false) rfl
        | tup y => exact Is.iteF (by decide +kernel : isS "tuple" "int" = false) rfl
        | dic y => exact Is.iteF (by decide +kernel : isS "dict" "int" = false) rfl
        | obj y z => exact Is.iteF (by decide +kernel : isS "object" "int" = false) rfl
      have yes : ∀ i : Int, m_is_number (.int i) = .ok true := fun i => Is.iteT (by decide +kernel : isS "int" "int" = true) (congrArg Res.ok (by decide +kernel : (!(isS "int" "bool")) = true))
      by_cases ha : ∃ i, a = .int i
      · obtain ⟨i, rfl⟩ := ha
        refine Is.bind (yes i) (Is.iteT rfl (Is.bind (num b fun j e => ?_) (Is.iteF rfl rfl)))
        subst e
        exact h i j rfl
      · exact Is.bind (num a fun i e => ha ⟨i, e⟩) (Is.iteF rfl rfl)
    | _ :: _ :: _ :: r => exact Is.iteT (by simp; omega) rfl
  | non => exact Is.iteF (by decide +kernel : isS "NoneType" "tuple" = false) rfl
  | bl y => exact Is.iteF (by decide +kernel : isS "bool" "tuple" = false) rfl
  | int y => exact Is.iteF (by decide +kernel : isS "int" "tuple" = false) rfl
  | str y => exact Is.iteF (by decide +kernel : isS "str" "tuple" = false) rfl
  | lst y => exact Is.iteF (by decide +kernel : isS "list" "tuple" = false) rfl
  | dic y => exact Is.iteF (by decide +kernel : isS "dict" "tuple" = false) rfl
  | obj y z => exact Is.iteF (by decide +kernel : isS "object" "tuple" = false) rfl
theorem nomom {d : D} (h : ∀ p q : Int, d ≠ .tup [.int p, .int q]) : m_is_moment d = .ok false := by
  unfold m_is_moment
  exact Is.bind (nofrac h) rfl
theorem nomom2 {p q : Int} (h : (decide (0 < q) && decide (Int.gcd p q = 1)) = false ∨ p < 0) : m_is_moment (.tup [.int p, .int q]) = .ok false := by
  unfold m_is_moment
  refine Is.bind (isfrac p q) ?_
  rcases h with h | h
  · exact Is.iteF h rfl
  · cases c : (decide (0 < q) && decide (Int.gcd p q = 1)) with
    | false => rfl
    | true => exact Is.iteT rfl (congrArg Res.ok (decide_eq_false (by omega)))
theorem edit3 (a b c : D) : m_is_edit (.tup [a, b, c]) = (m_is_fraction a).bind fun x28 => (if x28 = true then (asD (Tp2 Int Int) a).bind fun x35 => (m_less (⟨0, 1⟩ : (Tp2 Int Int)) x35).bind fun x38 => (if x38 = true then (m_is_moment c).bind fun x44 => (if x44 = true then (if (isNonD b) = true then guardR (okEq c (enc (⟨0, 1⟩ : (Tp2 Int Int)))) <| .ok (eqD c (enc (⟨0, 1⟩ : (Tp2 Int Int)))) else (m_is_moment b).bind fun x51 => .ok x51) else .ok false) else .ok false) else .ok false) := by
  unfold m_is_edit
  exact Is.iteT (by decide +kernel : isS "tuple" "tuple" = true) (Is.bind (a := [a, b, c]) rfl (Is.iteF rfl (Is.bind (a := [a, b, c]) rfl (Is.guard rfl rfl))))
theorem edA {a b c : D} (h : m_is_fraction a = .ok false) : m_is_edit (.tup [a, b, c]) = .ok false := by rw [edit3, h]; rfl
theorem span_ok {e : Er} (h : GoodE e) (hs : Sz e.s) {b c : D} : m_is_edit (.tup [enc (F e.s), b, c]) = (m_is_moment c).bind fun x44 => (if x44 = true then (if (isNonD b) = true then guardR (okEq c (enc (⟨0, 1⟩ : (Tp2 Int Int)))) <| .ok (eqD c (enc (⟨0, 1⟩ : (Tp2 Int Int)))) else (m_is_moment b).bind fun x51 => .ok x51) else .ok false) := by
  rw [edit3]
  refine Is.bind (isfracF _) (Is.iteT rfl (Is.bind (a := F e.s) rfl (Is.bind (by rw [F0]; exact mless Sz0 hs) (Is.iteT (decide_eq_true h.s) rfl))))
theorem edC {e : Er} (h : GoodE e) (hs : Sz e.s) {b c : D} (hc : m_is_moment c = .ok false) : m_is_edit (.tup [enc (F e.s), b, c]) = .ok false := by rw [span_ok h hs, hc]; rfl
theorem mom11 : m_is_moment (.tup [.int 1, .int 1]) = .ok true := ismomF (q := 1) (by decide)
theorem mom01 : m_is_moment (.tup [.int 0, .int 1]) = .ok true := ismomF (q := 0) (by decide)
theorem edD {e : Er} (h : GoodE e) (hs : Sz e.s) {b c : D} (hc : m_is_moment c = .ok true) (hn : isNonD b = false) (hb : m_is_moment b = .ok false) : m_is_edit (.tup [enc (F e.s), b, c]) = .ok false := by
  rw [span_ok h hs, hc]
  exact Is.iteF hn (by rw [hb]; rfl)
theorem edE {e : Er} (h : GoodE e) (hs : Sz e.s) : m_is_edit (.tup [enc (F e.s), .non, .tup [.int 1, .int 1]]) = .ok false := by
  rw [span_ok h hs, mom11]
  show guardR (okEq (.tup [.int 1, .int 1]) (enc (⟨0, 1⟩ : Tp2 Int Int))) (.ok (eqD (.tup [.int 1, .int 1]) (enc (⟨0, 1⟩ : Tp2 Int Int)))) = _
  exact Is.guard (okEq_of rfl rfl) rfl
theorem noed {d : D} (h : ∀ l, d ≠ .tup l) : m_is_edit d = .ok false := by
  unfold m_is_edit
  cases d with
  | tup l => exact absurd rfl (h l)
  | non => exact Is.iteF (by decide +kernel : isS "NoneType" "tuple" = false) rfl
  | bl y => exact Is.iteF (by decide +kernel : isS "bool" "tuple" = false) rfl
  | int y => exact Is.iteF (by decide +kernel : isS "int" "tuple" = false) rfl
  | str y => exact Is.iteF (by decide +kernel : isS "str" "tuple" = false) rfl
  | lst y => exact Is.iteF (by decide +kernel : isS "list" "tuple" = false) rfl
  | dic y => exact Is.iteF (by decide +kernel : isS "dict" "tuple" = false) rfl
  | obj y z => exact Is.iteF (by decide +kernel : isS "object" "tuple" = false) rfl
theorem noed2 {l : List D} (h : l.length ≠ 3) : m_is_edit (.tup l) = .ok false := by
  unfold m_is_edit
  exact Is.iteT (by decide +kernel : isS "tuple" "tuple" = true) (Is.bind (a := l) rfl (Is.iteT (by simp; omega) rfl))
/-! # the law's odd things -/
theorem Sz.small {q : Rat} (h : q.num.natAbs < 2 ^ 64 := by decide) (h' : q.den < 2 ^ 64 := by decide) : Sz q := ⟨pow_up h (by decide), pow_up h' (by decide)⟩
theorem edS {q : Rat} (hq : Sz q) (h0 : (decide ((0 : Rat) < q)) = false) {b c : D} : m_is_edit (.tup [enc (F q), b, c]) = .ok false := by
  rw [edit3]
  refine Is.bind (isfracF _) (Is.iteT rfl (Is.bind (a := F q) rfl (Is.bind (by rw [F0]; exact mless Sz0 hq) ?_)))
  rw [h0]
  rfl
theorem nofrac2 {p q : Int} (h : (decide (0 < q) && decide (Int.gcd p q = 1)) = false) : m_is_fraction (.tup [.int p, .int q]) = .ok false := by rw [isfrac, h]
theorem nf22 : m_is_fraction (.tup [.int 2, .int 2]) = .ok false := nofrac2 (by decide)
theorem nm11 : m_is_moment (.tup [.int (-1), .int 1]) = .ok false := nomom2 (.inr (by decide))
theorem nm24 : m_is_moment (.tup [.int 2, .int 4]) = .ok false := nomom2 (.inl (by decide))
theorem nm12 : m_is_moment (.tup [.int (-1), .int 2]) = .ok false := nomom2 (.inr (by decide))
theorem nm02 : m_is_moment (.tup [.int 0, .int 2]) = .ok false := nomom2 (.inl (by decide))
theorem nm10 : m_is_moment (.tup [.int 1, .int 0]) = .ok false := nomom2 (.inl (by decide))
theorem nm1m : m_is_moment (.tup [.int 1, .int (-1)]) = .ok false := nomom2 (.inl (by decide))
theorem odd_ok {st : List Int} {e : Er} (hst : Gd st) (h : GoodE e) (hs : Sz e.s) : Ok (l_odd_edit st (G e)) fun r => m_is_edit r.1 = .ok false ∧ r.2.length = 3 := by
  unfold l_odd_edit
  refine Ok.ixm ?_ ?_ fun x25 _ => ?_
  · cases isNonD (enc (G e).b) <;> decide
  · show _ < (2 : Int)
    cases isNonD (enc (G e).b) <;> decide
  refine Ok.guard (Nat.le_of_ble_eq_true rfl) (Ok.guard (Nat.le_of_ble_eq_true rfl) (Ok.guard (Nat.le_of_ble_eq_true rfl) (Ok.guard (Nat.le_of_ble_eq_true rfl) (Ok.guard (Nat.le_of_ble_eq_true rfl) ?_))))
  refine dg (b := 30) hst (by decide) (bg (by decide)) fun x s h0 h1 h3 => ?_
  refine Ok.ixm h0 h1 fun d m => Ok.pure ⟨?_, h3⟩
  revert d
  simp only [List.forall_mem_append, List.forall_mem_cons]
  have nil : ∀ x : D, x ∈ ([] : List D) → m_is_edit x = .ok false := fun _ m => nomatch m
  refine ⟨⟨⟨⟨⟨⟨?_, ?_, ?_, ?_, ?_, ?_, ?_, ?_, ?_, nil⟩, ?_, ?_, ?_, ?_, nil⟩, ?_, ?_, ?_, ?_, nil⟩, ?_, ?_, ?_, ?_, nil⟩, ?_, ?_, ?_, ?_, ?_, nil⟩, ?_, ?_, ?_, ?_, nil⟩
  · exact noed fun l => nofun
  · exact noed fun l => nofun
  · exact noed2 (l := []) (by decide)
  · exact noed2 (l := [_, _]) (show (2 : Nat) ≠ 3 by decide)
  · exact noed2 (l := [_, _, _, _]) (show (4 : Nat) ≠ 3 by decide)
  · exact noed fun l => nofun
  · exact noed fun l => nofun
  · exact noed fun l => nofun
  · exact noed fun l => nofun
  · exact edS (q := 0) Sz0 (by decide)
  · exact edS (q := mkRat (-1) 2) Sz.small (by decide +kernel)
  · exact edA nf22
  · exact edA (nofrac fun p q => nofun)
  · exact edA (nofrac fun p q => nofun)
  · exact edA (nofrac fun p q => nofun)
  · exact edD h hs mom11 rfl nm11
  · exact edD h hs mom11 rfl nm24
  · exact edD h hs mom11 rfl (nomom fun p q => nofun)
  · exact edD h hs mom01 rfl (nomom fun p q => nofun)
  · exact edD h hs mom11 rfl (nomom fun p q => nofun)
  · exact edC h hs nm12
  · exact edC h hs (nomom fun p q => nofun)
  · exact edC h hs nm02
  · exact edC h hs (nomom fun p q => nofun)
  · exact edE h hs
  · exact edC h hs (nomom fun p q => nofun)
  · exact edC h hs nm10
  · exact edD h hs mom11 rfl nm1m
  · exact edC h hs (nomom fun p q => nofun)
  · exact edA (nofrac fun p q => nofun)
theorem nolist {d : D} (h : ∀ l, d ≠ .lst l) : m_is_edits d = .ok false := by
  unfold m_is_edits
  cases d with
  | lst l => exact absurd rfl (h l)
  | non => exact Is.iteF (by decide +kernel : isS "NoneType" "list" = false) rfl
  | bl y => exact Is.iteF (by decide +kernel : isS "bool" "list" = false) rfl
  | int y => exact Is.iteF (by decide +kernel : isS "int" "list" = false) rfl
  | str y => exact Is.iteF (by decide +kernel : isS "str" "list" = false) rfl
  | tup y => exact Is.iteF (by decide +kernel : isS "tuple" "list" = false) rfl
  | dic y => exact Is.iteF (by decide +kernel : isS "dict" "list" = false) rfl
  | obj y z => exact Is.iteF (by decide +kernel : isS "object" "list" = false) rfl
theorem one_odd {l : List Er} {x y : List Ed} {o : D} (hl : l.length ≤ 1000) (h : ∀ e ∈ l, GoodE e ∧ Sz e.s) (hx : x.length ≤ l.length) (hy : y.length ≤ l.length) (mx : ∀ z ∈ x, z ∈ l.map G) (my : ∀ z ∈ y, z ∈ l.map G) (ho : m_is_edit o = .ok false) : m_is_edits (enc ((x.map enc ++ [o]) ++ y.map enc : List D)) = .ok false := by
  have each : ∀ z ∈ l.map G, m_is_edit (enc z) = .ok true := fun z m => by
    obtain ⟨e, me, rfl⟩ := List.mem_map.mp m
    exact isedit (h e me).1 (h e me).2
  have ed : ∀ d ∈ (x.map enc ++ [o]) ++ y.map enc, ∃ b, m_is_edit d = .ok b := fun d m => by
    rcases List.mem_append.mp m with m | m
    · rcases List.mem_append.mp m with m | m
      · obtain ⟨z, mz, rfl⟩ := List.mem_map.mp m
        exact ⟨_, each z (mx z mz)⟩
      · rw [List.mem_singleton.mp m]
        exact ⟨_, ho⟩
    · obtain ⟨z, mz, rfl⟩ := List.mem_map.mp m
      exact ⟨_, each z (my z mz)⟩
  have := edits_list (l := (x.map enc ++ [o]) ++ y.map enc) (by simp only [List.length_append, List.length_map, List.length_singleton]; omega) ed
  show m_is_edits (.lst (((x.map enc ++ [o]) ++ y.map enc).map enc)) = _
  rw [enc_Ds, this]
  refine congrArg Res.ok (List.all_eq_false.mpr ⟨o, by simp, ?_⟩)
  unfold tE
  rw [ho]
  exact Bool.false_ne_true
theorem bad_ok {st : List Int} {l : List Er} (hst : Gd st) (hl : l.length ≤ 1000) (h : ∀ e ∈ l, GoodE e ∧ Sz e.s) : Ok (l_bad_edits st (l.map G)) fun r => m_is_edits r.1 = .ok false ∧ r.2.length = 3 := by
  unfold l_bad_edits
  refine dg hst (by decide) (bg (by decide)) fun x s h0 h1 h3 => ?_
  have ll : (l.map G).length = l.length := List.length_map ..
  refine dg (gd3 h3) (by omega) (bg (by omega)) fun y s h0 h1 h3 => ?_
  refine Ok.guard (by rw [ll]; show l.length + 1 ≤ _; omega) ?_
  refine Ok.ixm h0 (by rw [List.length_append, ll]; show y < ((l.length + 1 : Nat) : Int); omega) fun z mz => ?_
  have hz : ∃ e, z = G e ∧ GoodE e ∧ Sz e.s := by
    rcases List.mem_append.mp mz with m | m
    · obtain ⟨e, me, rfl⟩ := List.mem_map.mp m
      exact ⟨e, rfl, h e me⟩
    · rw [List.mem_singleton.mp m]
      exact ⟨⟨1, some 0, 1⟩, rfl, ⟨by decide, by decide, fun x q => by cases q; decide, fun q => nomatch q⟩, Sz.small⟩
  obtain ⟨e, rfl, ge, gs⟩ := hz
  refine Ok.bind (odd_ok (gd3 h3) ge gs) ?_
  rintro ⟨o, s⟩ ⟨ho, h3⟩
  have cl : ∀ a b, (cutL (l.map G) a b).length ≤ l.length := fun a b => by have := cutL_len (l := l.map G) (lo := a) (hi := b); omega
  have gl : ∀ a b, ((cutL (l.map G) a b).map enc : List D).length + ([o] : List D).length ≤ 1000000 := fun a b => by
    rw [List.length_map]; have := cl a b; show _ + 1 ≤ _; omega
  have gl2 : ∀ a b c d, (((cutL (l.map G) a b).map enc : List D) ++ ([o] : List D)).length + ((cutL (l.map G) c d).map enc : List D).length ≤ 1000000 := fun a b c d => by
    rw [List.length_append, List.length_map, List.length_map]; have := cl a b; have := cl c d; show _ + 1 + _ ≤ _; omega
  have fin : ∀ a b c d, m_is_edits (enc ((((cutL (l.map G) a b).map enc : List D) ++ ([o] : List D)) ++ ((cutL (l.map G) c d).map enc : List D))) = .ok false := fun a b c d =>
    one_odd hl h (cl a b) (cl c d) (fun z m => cutL_mem m) (fun z m => cutL_mem m) ho
  refine Ok.ite (fun _ => ?_) fun _ => Ok.ite (fun _ => ?_) fun _ => ?_
  · refine Ok.bind (φ := fun _ => True) (Ok.comp (by decide) (fun _ => True) (fun _ => True) (fun x s _ _ => Ok.pure ⟨trivial, fun _ _ => trivial⟩) trivial |>.mono fun _ _ => trivial) ?_
    rintro ⟨acc, _⟩ _
    refine dg (b := 9) (gd3 h3) (by decide) (bg (by decide)) fun x s h0 h1 h3 => ?_
    refine Ok.ixm h0 h1 fun d m => Ok.pure ⟨?_, h3⟩
    revert d
    simp only [List.forall_mem_cons]
    refine ⟨?_, ?_, ?_, ?_, ?_, ?_, ?_, ?_, ?_, fun _ m => nomatch m⟩ <;> exact nolist fun l => nofun
  · exact Ok.guard (gl _ _) (Ok.guard (gl2 _ _ _ _) (Ok.pure ⟨fin _ _ _ _, h3⟩))
  · exact Ok.guard (gl _ _) (Ok.guard (gl2 _ _ _ _) (Ok.pure ⟨fin _ _ _ _, h3⟩))
/-! # what the deeds refuse -/
theorem sure_bad {d : D} (h : m_is_edits d = .ok false) : m_sure_edits d = .err ⟨"NoEdits", []⟩ := by
  unfold m_sure_edits
  rw [h]
  rfl
theorem sure_mom {d : D} (h : m_is_moment d = .ok true) : m_sure_moment d = .ok () := by
  unfold m_sure_moment
  rw [h]
  rfl
theorem sure_nomom {d : D} (h : m_is_moment d = .ok false) : m_sure_moment d = .err ⟨"NoMoment", []⟩ := by
  unfold m_sure_moment
  rw [h]
  rfl
theorem deed_bad {w : Int} (h0 : 0 ≤ w) (h1 : w < 11) {b g t : D} (hb : m_sure_edits b = .err ⟨"NoEdits", []⟩) (hg : m_sure_edits g = .ok ()) : l_deed w b g t = .err ⟨"NoEdits", []⟩ := by
  have : w = 0 ∨ w = 1 ∨ w = 2 ∨ w = 3 ∨ w = 4 ∨ w = 5 ∨ w = 6 ∨ w = 7 ∨ w = 8 ∨ w = 9 ∨ w = 10 := by omega
  rcases this with rfl | rfl | rfl | rfl | rfl | rfl | rfl | rfl | rfl | rfl | rfl
  · show (m_mapped__any b t).bind _ = _
    unfold m_mapped__any; rw [hb]; rfl
  · show (m_part__any b t t).bind _ = _
    unfold m_part__any; rw [hb]; rfl
  · show (m_stretches__any b t t).bind _ = _
    unfold m_stretches__any; rw [hb]; rfl
  · show (m_over__any b g).bind _ = _
    unfold m_over__any; rw [hb]; rfl
  · show (m_over__any g b).bind _ = _
    unfold m_over__any; rw [hg, hb]; rfl
  · show (m_after__any b g).bind _ = _
    unfold m_after__any; rw [hb]; rfl
  · show (m_after__any g b).bind _ = _
    unfold m_after__any; rw [hg, hb]; rfl
  · show (m_parted__any b g).bind _ = _
    unfold m_parted__any; rw [hb]; rfl
  · show (m_parted__any g b).bind _ = _
    unfold m_parted__any; rw [hg, hb]; rfl
  · show (m_tidy__any b).bind _ = _
    unfold m_tidy__any; rw [hb]; rfl
  · show (m_total__any b).bind _ = _
    unfold m_total__any; rw [hb]; rfl
theorem kind_edits {w : Int} {b g t : D} (h : l_deed w b g t = .err ⟨"NoEdits", []⟩) : l_kind w b g t = .ok "edits" := by
  unfold l_kind
  rw [h]
  rfl
theorem kind_moment {w : Int} {b g t : D} (h : l_deed w b g t = .err ⟨"NoMoment", []⟩) : l_kind w b g t = .ok "moment" := by
  unfold l_kind
  rw [h]
  rfl
theorem kind_stretch {w : Int} {g a b : D} (hg : m_sure_edits g = .ok ()) (h : m_sure_stretch a b = .err ⟨"NoMoment", []⟩) : l_stretch_kind w g a b = .ok "moment" := by
  unfold l_stretch_kind m_part__any m_stretches__any
  rw [hg]
  cases c : decide (w = 0)
  · show Res.bind (tryR ((Res.bind (Res.bind (m_sure_stretch a b) _) _)) _) _ = _
    rw [h]
    rfl
  · show Res.bind (tryR ((Res.bind (Res.bind (m_sure_stretch a b) _) _)) _) _ = _
    rw [h]
    rfl
theorem str_odd {a b : D} (h : m_is_moment a = .ok false) : m_sure_stretch a b = .err ⟨"NoMoment", []⟩ := by
  unfold m_sure_stretch
  rw [sure_nomom h]
  rfl
theorem str_odd2 {a b : D} (ha : m_is_moment a = .ok true) (h : m_is_moment b = .ok false) : m_sure_stretch a b = .err ⟨"NoMoment", []⟩ := by
  unfold m_sure_stretch
  rw [sure_mom ha, sure_nomom h]
  rfl
theorem str_back {p q : Rat} (hp : 0 ≤ p) (hq : 0 ≤ q) (sp : Sz p) (sq : Sz q) (h : ¬ (p < q)) : m_sure_stretch (enc (F p)) (enc (F q)) = .err ⟨"NoMoment", []⟩ := by
  unfold m_sure_stretch
  rw [sure_mom (ismomF hp), sure_mom (ismomF hq)]
  show (Res.bind (m_less (F p) (F q)).noErr _) = _
  rw [mless sp sq, decide_eq_false h]
  rfl
theorem cell_ok {ns : List Int} {i : Int} (h0 : 0 ≤ i) : Ok (l_cell_at ns i) fun _ => True := by
  unfold l_cell_at
  exact Ok.ite (fun c => Ok.ix h0 (of_decide_eq_true c) fun x _ _ => Ok.pure trivial) fun _ => Ok.pure trivial
theorem eqOk_two {l : List Ed} {f : Fr} : eqOk 20 (enc (⟨l, f⟩ : Tp2 (List Ed) Fr)) = true := by
  have : eqOk 19 (enc l) = true := by
    show eqOks 18 (l.map enc) = true
    induction l with
    | nil => rfl
    | cons x xs ih =>
      have : eqOk 18 (enc x) = true := by
        obtain ⟨a, b, c⟩ := x
        cases b <;> rfl
      show (eqOk 18 (enc x) && eqOks 18 (xs.map enc)) = true
      rw [ih, this]
      rfl
  show (eqOk 19 (enc l) && (eqOk 19 (enc f) && true)) = true
  rw [this]
  rfl
theorem Mo.F {D N : Nat} {f : Fr} (h : Mo D N f) : ∃ q : Rat, f = A.F q ∧ 0 ≤ q ∧ Dv D N q := h
theorem law_ok (ns : List Int) (h : ns.length ≤ 63) : m_law ns = .ok true := by
  have q : Ok (m_law ns) fun r => r = true := by
    unfold m_law
    refine Ok.bind (cell_ok (by decide)) fun x1 _ => Ok.bind (edits_ok (.inl rfl) (by decide) (by decide)) ?_
    rintro ⟨l', s1⟩ ⟨⟨l, el, hl, hg⟩, _⟩
    simp only at el
    subst el
    have hl : l.length ≤ 7 := hl
    have bT : Big DD (NN * (l.length + 1)) := ⟨(big_of (D := DD) (N := 0)).p, (big_of (D := DD) (N := 0)).d, Nat.lt_of_le_of_lt (Nat.mul_le_mul_left _ (show l.length + 1 ≤ 8 by omega)) (big_of (D := DD) (N := NN * 8)).n⟩
    obtain ⟨eT, _⟩ := tidy_mA (by omega) bT hg
    have eS := total_mA (by omega) bT hg
    have hgs : ∀ e ∈ l, GoodE e ∧ Sz e.s := fun e m => ⟨(hg e m).g, bigDN.sz (hg e m).s⟩
    have eG : m_sure_edits (enc (l.map G)) = .ok () := sure_eA (by omega) hgs
    refine Ok.bind (cell_ok (by decide)) fun x2 _ => Ok.bindE (noErr_ok eT) (Ok.bindE (noErr_ok eS) ?_)
    refine dg (b := 12) (.inl rfl) (by decide) (bg (by decide)) fun x s h0 h1 h3 => ?_
    refine Ok.ixm h0 h1 fun odd mo => ?_
    have ho : m_is_moment odd = .ok false := by
      revert odd
      simp only [List.forall_mem_cons]
      refine ⟨nomom fun p q => nofun, nomom fun p q => nofun, nomom fun p q => nofun, nomom fun p q => nofun, nomom2 (.inr (by decide)), nomom2 (.inl (by decide)), nomom2 (.inl (by decide)), nomom2 (.inl (by decide)), nomom fun p q => nofun, nomom fun p q => nofun, nomom fun p q => nofun, nomom2 (.inl (by decide)), fun _ m => nomatch m⟩
    clear mo
    refine Ok.bind (Ok.for (fun s : List Int => s.length = 3) (fun k s _ hs => ?_) h3) ?_
    · refine Ok.bind (bad_ok (gd3 hs) (by omega) hgs) ?_
      rintro ⟨bad, s⟩ ⟨hb, h3⟩
      have hb : m_is_edits bad = .ok false := hb
      refine Ok.bindE hb (Ok.iteF (by decide) (Ok.bindE (edits_good (by omega) hgs) (Ok.iteF (by decide) ?_)))
      refine Ok.bind (Ok.for (fun s : List Int => s.length = 3) (fun w s mw hs => ?_) h3) ?_
      · refine dg (b := 2) (gd3 hs) (by decide) (bg (by decide)) fun y s h0 h1 h3 => ?_
        refine Ok.ixm h0 h1 fun t _ => ?_
        have hw := mem_rngI mw
        exact Ok.bindE (kind_edits (deed_bad hw.1 hw.2 (sure_bad hb) eG)) (Ok.iteF (by decide) (Ok.pure ⟨_, rfl, h3⟩))
      · rintro _ ⟨s', rfl, hs'⟩
        exact Ok.pure ⟨_, rfl, hs'⟩
    · rintro _ ⟨s', rfl, hs'⟩
      have e0 : l_deed 0 (enc (l.map G)) (enc (l.map G)) odd = .err ⟨"NoMoment", []⟩ := by
        show (m_mapped__any (enc (l.map G)) odd).bind _ = _
        unfold m_mapped__any
        rw [eG]
        show (Res.bind (Res.bind (m_sure_moment odd) _) _) = _
        rw [sure_nomom ho]
        rfl
      refine Ok.bindE (kind_moment e0) (Ok.iteF (by decide) ?_)
      refine Ok.bind (amount_ok (gd3 hs')) ?_
      rintro ⟨lo, s2⟩ ⟨mlo, h2⟩
      refine Ok.bind (amount_ok (gd3 h2)) ?_
      rintro ⟨am, s3⟩ ⟨mam, h3⟩
      obtain ⟨p, rfl, p0, dp⟩ := mlo.F
      obtain ⟨a, rfl, a0, da⟩ := mam.F
      have b0 : Big D0 (N0 + N0) := big_of
      have sp : Sz p := b0.sz (dp.up (by decide))
      have sa : Sz a := b0.sz (da.up (by decide))
      have sh : Sz (p + a) := b0.sz (dp.add da)
      refine Ok.bindE (lplus sp sa) ?_
      have h0 : (0 : Rat) ≤ p + a := by grind
      refine Ok.bind (Ok.for (fun _ : Unit => True) (fun w _ mw _ => ?_) trivial) ?_
      · refine Ok.bind (Ok.for (fun _ : Unit => True) (fun d _ md _ => ?_) trivial) ?_
        · have : ∃ u v : D, d = .tup [u, v] ∧ m_sure_stretch u v = .err ⟨"NoMoment", []⟩ := by
            revert d
            simp only [List.forall_mem_cons]
            exact ⟨⟨_, _, rfl, str_odd ho⟩, ⟨_, _, rfl, str_odd2 (ismomF p0) ho⟩, ⟨_, _, rfl, str_odd ho⟩, ⟨_, _, rfl, str_back h0 p0 sh sp (by grind)⟩, ⟨_, _, rfl, str_back p0 p0 sp sp (by grind)⟩, fun _ m => nomatch m⟩
          obtain ⟨u, v, rfl, e⟩ := this
          exact Ok.bindE (a := [u, v]) rfl (Ok.guard rfl (Ok.bindE (a := u) rfl (Ok.bindE (a := v) rfl (Ok.bindE (kind_stretch eG e) (Ok.iteF (by decide) (Ok.pure ⟨_, rfl, trivial⟩))))))
        · rintro _ ⟨_, rfl, _⟩
          exact Ok.pure ⟨_, rfl, trivial⟩
      · rintro _ ⟨_, rfl, _⟩
        exact Ok.bindE (noErr_ok eT) (Ok.bindE (noErr_ok eS) (Ok.guard (okEq_of eqOk_two eqOk_two) (Ok.pure (eqD_refl (eqOk_flat _ 20 eqOk_two).1))))
  obtain ⟨a, e, rfl⟩ := q
  exact e
end A

set_option Elab.async false
set_option linter.all false
set_option maxRecDepth 100000
set_option maxHeartbeats 4000000
namespace A
open PySem PySem.Spec PyProof.Rows L2 Y
open Y.Enc (enc)
theorem all_mk {l : PySem.W.OpenLaw} {w : World} {K : PySem.W.Frag} {h : Heap} {mg : Str → Option Value} {fa : Addr} (X : K.In h) (G : h.Ns mainGlobals mg) (hfa : mg "law" = some (.ref fa))
    {f_divisor : Addr} {od_divisor an_divisor : Option Addr} {sl_divisor : Array (Option Value)} {oc_divisor kV_divisor dc_divisor pm_divisor cd_divisor ct_divisor : Value}
    (a_divisor : PySem.W.nsIn K mainGlobals "divisor" = some (some (.ref f_divisor))) (l_divisor : K.lookup f_divisor = some ⟨oc_divisor, od_divisor, .func (PySem.W.fnOf "divisor" "divisor" (defArgs s_divisor) (defBody s_divisor) (defScope s_divisor) .none kV_divisor dc_divisor pm_divisor an_divisor cd_divisor ct_divisor), sl_divisor⟩) (c_divisor : PySem.W.codeIn K cd_divisor "divisor" = true) (k_divisor : PySem.W.keepIn K (.ref f_divisor) = true)
    {f_is_number : Addr} {od_is_number an_is_number : Option Addr} {sl_is_number : Array (Option Value)} {oc_is_number kV_is_number dc_is_number pm_is_number cd_is_number ct_is_number : Value}
    (a_is_number : PySem.W.nsIn K mainGlobals "is_number" = some (some (.ref f_is_number))) (l_is_number : K.lookup f_is_number = some ⟨oc_is_number, od_is_number, .func (PySem.W.fnOf "is_number" "is_number" (defArgs s_is_number) (defBody s_is_number) (defScope s_is_number) .none kV_is_number dc_is_number pm_is_number an_is_number cd_is_number ct_is_number), sl_is_number⟩) (c_is_number : PySem.W.codeIn K cd_is_number "is_number" = true) (k_is_number : PySem.W.keepIn K (.ref f_is_number) = true)
    {f_fraction : Addr} {od_fraction an_fraction : Option Addr} {sl_fraction : Array (Option Value)} {oc_fraction kV_fraction dc_fraction pm_fraction cd_fraction ct_fraction : Value} {T_fraction_ : Addr} {oT_fraction : Value} {dT_fraction : Option Addr} {nT_fraction : Nat} {sT_fraction : Array (Option Value)} {tk_fraction_bottom : Tok}
    (a_fraction : PySem.W.nsIn K mainGlobals "fraction" = some (some (.ref f_fraction))) (l_fraction : K.lookup f_fraction = some ⟨oc_fraction, od_fraction, .func (PySem.W.fnOf "fraction" "fraction" (defArgs s_fraction) (defBody s_fraction) (defScope s_fraction) (.ref T_fraction_) kV_fraction dc_fraction pm_fraction an_fraction cd_fraction ct_fraction), sl_fraction⟩) (c_fraction : PySem.W.codeIn K cd_fraction "fraction" = true) (k_fraction : PySem.W.keepIn K (.ref f_fraction) = true)
    (lT_fraction : K.lookup T_fraction_ = some ⟨oT_fraction, dT_fraction, .seq #[.int 1 tk_fraction_bottom] nT_fraction, sT_fraction⟩)
    {f_is_fraction : Addr} {od_is_fraction an_is_fraction : Option Addr} {sl_is_fraction : Array (Option Value)} {oc_is_fraction kV_is_fraction dc_is_fraction pm_is_fraction cd_is_fraction ct_is_fraction : Value}
    (a_is_fraction : PySem.W.nsIn K mainGlobals "is_fraction" = some (some (.ref f_is_fraction))) (l_is_fraction : K.lookup f_is_fraction = some ⟨oc_is_fraction, od_is_fraction, .func (PySem.W.fnOf "is_fraction" "is_fraction" (defArgs s_is_fraction) (defBody s_is_fraction) (defScope s_is_fraction) .none kV_is_fraction dc_is_fraction pm_is_fraction an_is_fraction cd_is_fraction ct_is_fraction), sl_is_fraction⟩) (c_is_fraction : PySem.W.codeIn K cd_is_fraction "is_fraction" = true) (k_is_fraction : PySem.W.keepIn K (.ref f_is_fraction) = true)
    {f_is_moment : Addr} {od_is_moment an_is_moment : Option Addr} {sl_is_moment : Array (Option Value)} {oc_is_moment kV_is_moment dc_is_moment pm_is_moment cd_is_moment ct_is_moment : Value}
    (a_is_moment : PySem.W.nsIn K mainGlobals "is_moment" = some (some (.ref f_is_moment))) (l_is_moment : K.lookup f_is_moment = some ⟨oc_is_moment, od_is_moment, .func (PySem.W.fnOf "is_moment" "is_moment" (defArgs s_is_moment) (defBody s_is_moment) (defScope s_is_moment) .none kV_is_moment dc_is_moment pm_is_moment an_is_moment cd_is_moment ct_is_moment), sl_is_moment⟩) (c_is_moment : PySem.W.codeIn K cd_is_moment "is_moment" = true) (k_is_moment : PySem.W.keepIn K (.ref f_is_moment) = true)
    {f_plus : Addr} {od_plus an_plus : Option Addr} {sl_plus : Array (Option Value)} {oc_plus kV_plus dc_plus pm_plus cd_plus ct_plus : Value}
    (a_plus : PySem.W.nsIn K mainGlobals "plus" = some (some (.ref f_plus))) (l_plus : K.lookup f_plus = some ⟨oc_plus, od_plus, .func (PySem.W.fnOf "plus" "plus" (defArgs s_plus) (defBody s_plus) (defScope s_plus) .none kV_plus dc_plus pm_plus an_plus cd_plus ct_plus), sl_plus⟩) (c_plus : PySem.W.codeIn K cd_plus "plus" = true) (k_plus : PySem.W.keepIn K (.ref f_plus) = true)
    {f_times : Addr} {od_times an_times : Option Addr} {sl_times : Array (Option Value)} {oc_times kV_times dc_times pm_times cd_times ct_times : Value}
    (a_times : PySem.W.nsIn K mainGlobals "times" = some (some (.ref f_times))) (l_times : K.lookup f_times = some ⟨oc_times, od_times, .func (PySem.W.fnOf "times" "times" (defArgs s_times) (defBody s_times) (defScope s_times) .none kV_times dc_times pm_times an_times cd_times ct_times), sl_times⟩) (c_times : PySem.W.codeIn K cd_times "times" = true) (k_times : PySem.W.keepIn K (.ref f_times) = true)
    {f_less : Addr} {od_less an_less : Option Addr} {sl_less : Array (Option Value)} {oc_less kV_less dc_less pm_less cd_less ct_less : Value}
    (a_less : PySem.W.nsIn K mainGlobals "less" = some (some (.ref f_less))) (l_less : K.lookup f_less = some ⟨oc_less, od_less, .func (PySem.W.fnOf "less" "less" (defArgs s_less) (defBody s_less) (defScope s_less) .none kV_less dc_less pm_less an_less cd_less ct_less), sl_less⟩) (c_less : PySem.W.codeIn K cd_less "less" = true) (k_less : PySem.W.keepIn K (.ref f_less) = true)
    {f_is_edit : Addr} {od_is_edit an_is_edit : Option Addr} {sl_is_edit : Array (Option Value)} {oc_is_edit kV_is_edit dc_is_edit pm_is_edit cd_is_edit ct_is_edit : Value}
    (a_is_edit : PySem.W.nsIn K mainGlobals "is_edit" = some (some (.ref f_is_edit))) (l_is_edit : K.lookup f_is_edit = some ⟨oc_is_edit, od_is_edit, .func (PySem.W.fnOf "is_edit" "is_edit" (defArgs s_is_edit) (defBody s_is_edit) (defScope s_is_edit) .none kV_is_edit dc_is_edit pm_is_edit an_is_edit cd_is_edit ct_is_edit), sl_is_edit⟩) (c_is_edit : PySem.W.codeIn K cd_is_edit "is_edit" = true) (k_is_edit : PySem.W.keepIn K (.ref f_is_edit) = true)
    {f_is_edits : Addr} {od_is_edits an_is_edits : Option Addr} {sl_is_edits : Array (Option Value)} {oc_is_edits kV_is_edits dc_is_edits pm_is_edits cd_is_edits ct_is_edits : Value}
    (a_is_edits : PySem.W.nsIn K mainGlobals "is_edits" = some (some (.ref f_is_edits))) (l_is_edits : K.lookup f_is_edits = some ⟨oc_is_edits, od_is_edits, .func (PySem.W.fnOf "is_edits" "is_edits" (defArgs s_is_edits) (defBody s_is_edits) (defScope s_is_edits) .none kV_is_edits dc_is_edits pm_is_edits an_is_edits cd_is_edits ct_is_edits), sl_is_edits⟩) (c_is_edits : PySem.W.codeIn K cd_is_edits "is_edits" = true) (k_is_edits : PySem.W.keepIn K (.ref f_is_edits) = true)
    {f_sure_edits : Addr} {od_sure_edits an_sure_edits : Option Addr} {sl_sure_edits : Array (Option Value)} {oc_sure_edits kV_sure_edits dc_sure_edits pm_sure_edits cd_sure_edits ct_sure_edits : Value}
    (a_sure_edits : PySem.W.nsIn K mainGlobals "sure_edits" = some (some (.ref f_sure_edits))) (l_sure_edits : K.lookup f_sure_edits = some ⟨oc_sure_edits, od_sure_edits, .func (PySem.W.fnOf "sure_edits" "sure_edits" (defArgs s_sure_edits) (defBody s_sure_edits) (defScope s_sure_edits) .none kV_sure_edits dc_sure_edits pm_sure_edits an_sure_edits cd_sure_edits ct_sure_edits), sl_sure_edits⟩) (c_sure_edits : PySem.W.codeIn K cd_sure_edits "sure_edits" = true) (k_sure_edits : PySem.W.keepIn K (.ref f_sure_edits) = true)
    {f_sure_moment : Addr} {od_sure_moment an_sure_moment : Option Addr} {sl_sure_moment : Array (Option Value)} {oc_sure_moment kV_sure_moment dc_sure_moment pm_sure_moment cd_sure_moment ct_sure_moment : Value}
    (a_sure_moment : PySem.W.nsIn K mainGlobals "sure_moment" = some (some (.ref f_sure_moment))) (l_sure_moment : K.lookup f_sure_moment = some ⟨oc_sure_moment, od_sure_moment, .func (PySem.W.fnOf "sure_moment" "sure_moment" (defArgs s_sure_moment) (defBody s_sure_moment) (defScope s_sure_moment) .none kV_sure_moment dc_sure_moment pm_sure_moment an_sure_moment cd_sure_moment ct_sure_moment), sl_sure_moment⟩) (c_sure_moment : PySem.W.codeIn K cd_sure_moment "sure_moment" = true) (k_sure_moment : PySem.W.keepIn K (.ref f_sure_moment) = true)
    {f_sure_stretch : Addr} {od_sure_stretch an_sure_stretch : Option Addr} {sl_sure_stretch : Array (Option Value)} {oc_sure_stretch kV_sure_stretch dc_sure_stretch pm_sure_stretch cd_sure_stretch ct_sure_stretch : Value}
    (a_sure_stretch : PySem.W.nsIn K mainGlobals "sure_stretch" = some (some (.ref f_sure_stretch))) (l_sure_stretch : K.lookup f_sure_stretch = some ⟨oc_sure_stretch, od_sure_stretch, .func (PySem.W.fnOf "sure_stretch" "sure_stretch" (defArgs s_sure_stretch) (defBody s_sure_stretch) (defScope s_sure_stretch) .none kV_sure_stretch dc_sure_stretch pm_sure_stretch an_sure_stretch cd_sure_stretch ct_sure_stretch), sl_sure_stretch⟩) (c_sure_stretch : PySem.W.codeIn K cd_sure_stretch "sure_stretch" = true) (k_sure_stretch : PySem.W.keepIn K (.ref f_sure_stretch) = true)
    {f_led_by : Addr} {od_led_by an_led_by : Option Addr} {sl_led_by : Array (Option Value)} {oc_led_by kV_led_by dc_led_by pm_led_by cd_led_by ct_led_by : Value}
    (a_led_by : PySem.W.nsIn K mainGlobals "led_by" = some (some (.ref f_led_by))) (l_led_by : K.lookup f_led_by = some ⟨oc_led_by, od_led_by, .func (PySem.W.fnOf "led_by" "led_by" (defArgs s_led_by) (defBody s_led_by) (defScope s_led_by) .none kV_led_by dc_led_by pm_led_by an_led_by cd_led_by ct_led_by), sl_led_by⟩) (c_led_by : PySem.W.codeIn K cd_led_by "led_by" = true) (k_led_by : PySem.W.keepIn K (.ref f_led_by) = true)
    {f_total : Addr} {od_total an_total : Option Addr} {sl_total : Array (Option Value)} {oc_total kV_total dc_total pm_total cd_total ct_total : Value}
    (a_total : PySem.W.nsIn K mainGlobals "total" = some (some (.ref f_total))) (l_total : K.lookup f_total = some ⟨oc_total, od_total, .func (PySem.W.fnOf "total" "total" (defArgs s_total__any) (defBody s_total__any) (defScope s_total__any) .none kV_total dc_total pm_total an_total cd_total ct_total), sl_total⟩) (c_total : PySem.W.codeIn K cd_total "total" = true) (k_total : PySem.W.keepIn K (.ref f_total) = true)
    {f_mapped : Addr} {od_mapped an_mapped : Option Addr} {sl_mapped : Array (Option Value)} {oc_mapped kV_mapped dc_mapped pm_mapped cd_mapped ct_mapped : Value}
    (a_mapped : PySem.W.nsIn K mainGlobals "mapped" = some (some (.ref f_mapped))) (l_mapped : K.lookup f_mapped = some ⟨oc_mapped, od_mapped, .func (PySem.W.fnOf "mapped" "mapped" (defArgs s_mapped__any) (defBody s_mapped__any) (defScope s_mapped__any) .none kV_mapped dc_mapped pm_mapped an_mapped cd_mapped ct_mapped), sl_mapped⟩) (c_mapped : PySem.W.codeIn K cd_mapped "mapped" = true) (k_mapped : PySem.W.keepIn K (.ref f_mapped) = true)
    {f_goes_on : Addr} {od_goes_on an_goes_on : Option Addr} {sl_goes_on : Array (Option Value)} {oc_goes_on kV_goes_on dc_goes_on pm_goes_on cd_goes_on ct_goes_on : Value}
    (a_goes_on : PySem.W.nsIn K mainGlobals "goes_on" = some (some (.ref f_goes_on))) (l_goes_on : K.lookup f_goes_on = some ⟨oc_goes_on, od_goes_on, .func (PySem.W.fnOf "goes_on" "goes_on" (defArgs s_goes_on) (defBody s_goes_on) (defScope s_goes_on) .none kV_goes_on dc_goes_on pm_goes_on an_goes_on cd_goes_on ct_goes_on), sl_goes_on⟩) (c_goes_on : PySem.W.codeIn K cd_goes_on "goes_on" = true) (k_goes_on : PySem.W.keepIn K (.ref f_goes_on) = true)
    {f_tidy : Addr} {od_tidy an_tidy : Option Addr} {sl_tidy : Array (Option Value)} {oc_tidy kV_tidy dc_tidy pm_tidy cd_tidy ct_tidy : Value}
    (a_tidy : PySem.W.nsIn K mainGlobals "tidy" = some (some (.ref f_tidy))) (l_tidy : K.lookup f_tidy = some ⟨oc_tidy, od_tidy, .func (PySem.W.fnOf "tidy" "tidy" (defArgs s_tidy__any) (defBody s_tidy__any) (defScope s_tidy__any) .none kV_tidy dc_tidy pm_tidy an_tidy cd_tidy ct_tidy), sl_tidy⟩) (c_tidy : PySem.W.codeIn K cd_tidy "tidy" = true) (k_tidy : PySem.W.keepIn K (.ref f_tidy) = true)
    {f_over : Addr} {od_over an_over : Option Addr} {sl_over : Array (Option Value)} {oc_over kV_over dc_over pm_over cd_over ct_over : Value}
    (a_over : PySem.W.nsIn K mainGlobals "over" = some (some (.ref f_over))) (l_over : K.lookup f_over = some ⟨oc_over, od_over, .func (PySem.W.fnOf "over" "over" (defArgs s_over__any) (defBody s_over__any) (defScope s_over__any) .none kV_over dc_over pm_over an_over cd_over ct_over), sl_over⟩) (c_over : PySem.W.codeIn K cd_over "over" = true) (k_over : PySem.W.keepIn K (.ref f_over) = true)
    {f_part : Addr} {od_part an_part : Option Addr} {sl_part : Array (Option Value)} {oc_part kV_part dc_part pm_part cd_part ct_part : Value}
    (a_part : PySem.W.nsIn K mainGlobals "part" = some (some (.ref f_part))) (l_part : K.lookup f_part = some ⟨oc_part, od_part, .func (PySem.W.fnOf "part" "part" (defArgs s_part__any) (defBody s_part__any) (defScope s_part__any) .none kV_part dc_part pm_part an_part cd_part ct_part), sl_part⟩) (c_part : PySem.W.codeIn K cd_part "part" = true) (k_part : PySem.W.keepIn K (.ref f_part) = true)
    {f_after : Addr} {od_after an_after : Option Addr} {sl_after : Array (Option Value)} {oc_after kV_after dc_after pm_after cd_after ct_after : Value}
    (a_after : PySem.W.nsIn K mainGlobals "after" = some (some (.ref f_after))) (l_after : K.lookup f_after = some ⟨oc_after, od_after, .func (PySem.W.fnOf "after" "after" (defArgs s_after__any) (defBody s_after__any) (defScope s_after__any) .none kV_after dc_after pm_after an_after cd_after ct_after), sl_after⟩) (c_after : PySem.W.codeIn K cd_after "after" = true) (k_after : PySem.W.keepIn K (.ref f_after) = true)
    {f_parted : Addr} {od_parted an_parted : Option Addr} {sl_parted : Array (Option Value)} {oc_parted kV_parted dc_parted pm_parted cd_parted ct_parted : Value}
    (a_parted : PySem.W.nsIn K mainGlobals "parted" = some (some (.ref f_parted))) (l_parted : K.lookup f_parted = some ⟨oc_parted, od_parted, .func (PySem.W.fnOf "parted" "parted" (defArgs s_parted__any) (defBody s_parted__any) (defScope s_parted__any) .none kV_parted dc_parted pm_parted an_parted cd_parted ct_parted), sl_parted⟩) (c_parted : PySem.W.codeIn K cd_parted "parted" = true) (k_parted : PySem.W.keepIn K (.ref f_parted) = true)
    {f_stretches : Addr} {od_stretches an_stretches : Option Addr} {sl_stretches : Array (Option Value)} {oc_stretches kV_stretches dc_stretches pm_stretches cd_stretches ct_stretches : Value}
    (a_stretches : PySem.W.nsIn K mainGlobals "stretches" = some (some (.ref f_stretches))) (l_stretches : K.lookup f_stretches = some ⟨oc_stretches, od_stretches, .func (PySem.W.fnOf "stretches" "stretches" (defArgs s_stretches__any) (defBody s_stretches__any) (defScope s_stretches__any) .none kV_stretches dc_stretches pm_stretches an_stretches cd_stretches ct_stretches), sl_stretches⟩) (c_stretches : PySem.W.codeIn K cd_stretches "stretches" = true) (k_stretches : PySem.W.keepIn K (.ref f_stretches) = true)
    {f__law_cell_at : Addr} {od__law_cell_at an__law_cell_at : Option Addr} {sl__law_cell_at : Array (Option Value)} {oc__law_cell_at kV__law_cell_at dc__law_cell_at pm__law_cell_at cd__law_cell_at ct__law_cell_at : Value}
    (a__law_cell_at : PySem.W.nsIn K mainGlobals "_law_cell_at" = some (some (.ref f__law_cell_at))) (l__law_cell_at : K.lookup f__law_cell_at = some ⟨oc__law_cell_at, od__law_cell_at, .func (PySem.W.fnOf "_law_cell_at" "_law_cell_at" (defArgs s__law_cell_at) (defBody s__law_cell_at) (defScope s__law_cell_at) .none kV__law_cell_at dc__law_cell_at pm__law_cell_at an__law_cell_at cd__law_cell_at ct__law_cell_at), sl__law_cell_at⟩) (c__law_cell_at : PySem.W.codeIn K cd__law_cell_at "_law_cell_at" = true) (k__law_cell_at : PySem.W.keepIn K (.ref f__law_cell_at) = true)
    {f__law_digit : Addr} {od__law_digit an__law_digit : Option Addr} {sl__law_digit : Array (Option Value)} {oc__law_digit kV__law_digit dc__law_digit pm__law_digit cd__law_digit ct__law_digit : Value}
    (a__law_digit : PySem.W.nsIn K mainGlobals "_law_digit" = some (some (.ref f__law_digit))) (l__law_digit : K.lookup f__law_digit = some ⟨oc__law_digit, od__law_digit, .func (PySem.W.fnOf "_law_digit" "_law_digit" (defArgs s__law_digit) (defBody s__law_digit) (defScope s__law_digit) .none kV__law_digit dc__law_digit pm__law_digit an__law_digit cd__law_digit ct__law_digit), sl__law_digit⟩) (c__law_digit : PySem.W.codeIn K cd__law_digit "_law_digit" = true) (k__law_digit : PySem.W.keepIn K (.ref f__law_digit) = true)
    {f__law_shared : Addr} {od__law_shared an__law_shared : Option Addr} {sl__law_shared : Array (Option Value)} {oc__law_shared kV__law_shared dc__law_shared pm__law_shared cd__law_shared ct__law_shared : Value}
    (a__law_shared : PySem.W.nsIn K mainGlobals "_law_shared" = some (some (.ref f__law_shared))) (l__law_shared : K.lookup f__law_shared = some ⟨oc__law_shared, od__law_shared, .func (PySem.W.fnOf "_law_shared" "_law_shared" (defArgs s__law_shared) (defBody s__law_shared) (defScope s__law_shared) .none kV__law_shared dc__law_shared pm__law_shared an__law_shared cd__law_shared ct__law_shared), sl__law_shared⟩) (c__law_shared : PySem.W.codeIn K cd__law_shared "_law_shared" = true) (k__law_shared : PySem.W.keepIn K (.ref f__law_shared) = true)
    {f__law_lowest : Addr} {od__law_lowest an__law_lowest : Option Addr} {sl__law_lowest : Array (Option Value)} {oc__law_lowest kV__law_lowest dc__law_lowest pm__law_lowest cd__law_lowest ct__law_lowest : Value}
    (a__law_lowest : PySem.W.nsIn K mainGlobals "_law_lowest" = some (some (.ref f__law_lowest))) (l__law_lowest : K.lookup f__law_lowest = some ⟨oc__law_lowest, od__law_lowest, .func (PySem.W.fnOf "_law_lowest" "_law_lowest" (defArgs s__law_lowest) (defBody s__law_lowest) (defScope s__law_lowest) .none kV__law_lowest dc__law_lowest pm__law_lowest an__law_lowest cd__law_lowest ct__law_lowest), sl__law_lowest⟩) (c__law_lowest : PySem.W.codeIn K cd__law_lowest "_law_lowest" = true) (k__law_lowest : PySem.W.keepIn K (.ref f__law_lowest) = true)
    {f__law_plus : Addr} {od__law_plus an__law_plus : Option Addr} {sl__law_plus : Array (Option Value)} {oc__law_plus kV__law_plus dc__law_plus pm__law_plus cd__law_plus ct__law_plus : Value}
    (a__law_plus : PySem.W.nsIn K mainGlobals "_law_plus" = some (some (.ref f__law_plus))) (l__law_plus : K.lookup f__law_plus = some ⟨oc__law_plus, od__law_plus, .func (PySem.W.fnOf "_law_plus" "_law_plus" (defArgs s__law_plus) (defBody s__law_plus) (defScope s__law_plus) .none kV__law_plus dc__law_plus pm__law_plus an__law_plus cd__law_plus ct__law_plus), sl__law_plus⟩) (c__law_plus : PySem.W.codeIn K cd__law_plus "_law_plus" = true) (k__law_plus : PySem.W.keepIn K (.ref f__law_plus) = true)
    {f__law_times : Addr} {od__law_times an__law_times : Option Addr} {sl__law_times : Array (Option Value)} {oc__law_times kV__law_times dc__law_times pm__law_times cd__law_times ct__law_times : Value}
    (a__law_times : PySem.W.nsIn K mainGlobals "_law_times" = some (some (.ref f__law_times))) (l__law_times : K.lookup f__law_times = some ⟨oc__law_times, od__law_times, .func (PySem.W.fnOf "_law_times" "_law_times" (defArgs s__law_times) (defBody s__law_times) (defScope s__law_times) .none kV__law_times dc__law_times pm__law_times an__law_times cd__law_times ct__law_times), sl__law_times⟩) (c__law_times : PySem.W.codeIn K cd__law_times "_law_times" = true) (k__law_times : PySem.W.keepIn K (.ref f__law_times) = true)
    {f__law_amount : Addr} {od__law_amount an__law_amount : Option Addr} {sl__law_amount : Array (Option Value)} {oc__law_amount kV__law_amount dc__law_amount pm__law_amount cd__law_amount ct__law_amount : Value}
    (a__law_amount : PySem.W.nsIn K mainGlobals "_law_amount" = some (some (.ref f__law_amount))) (l__law_amount : K.lookup f__law_amount = some ⟨oc__law_amount, od__law_amount, .func (PySem.W.fnOf "_law_amount" "_law_amount" (defArgs s__law_amount) (defBody s__law_amount) (defScope s__law_amount) .none kV__law_amount dc__law_amount pm__law_amount an__law_amount cd__law_amount ct__law_amount), sl__law_amount⟩) (c__law_amount : PySem.W.codeIn K cd__law_amount "_law_amount" = true) (k__law_amount : PySem.W.keepIn K (.ref f__law_amount) = true)
    {f__law_edit : Addr} {od__law_edit an__law_edit : Option Addr} {sl__law_edit : Array (Option Value)} {oc__law_edit kV__law_edit dc__law_edit pm__law_edit cd__law_edit ct__law_edit : Value}
    (a__law_edit : PySem.W.nsIn K mainGlobals "_law_edit" = some (some (.ref f__law_edit))) (l__law_edit : K.lookup f__law_edit = some ⟨oc__law_edit, od__law_edit, .func (PySem.W.fnOf "_law_edit" "_law_edit" (defArgs s__law_edit) (defBody s__law_edit) (defScope s__law_edit) .none kV__law_edit dc__law_edit pm__law_edit an__law_edit cd__law_edit ct__law_edit), sl__law_edit⟩) (c__law_edit : PySem.W.codeIn K cd__law_edit "_law_edit" = true) (k__law_edit : PySem.W.keepIn K (.ref f__law_edit) = true)
    {f__law_edits : Addr} {od__law_edits an__law_edits : Option Addr} {sl__law_edits : Array (Option Value)} {oc__law_edits kV__law_edits dc__law_edits pm__law_edits cd__law_edits ct__law_edits : Value}
    (a__law_edits : PySem.W.nsIn K mainGlobals "_law_edits" = some (some (.ref f__law_edits))) (l__law_edits : K.lookup f__law_edits = some ⟨oc__law_edits, od__law_edits, .func (PySem.W.fnOf "_law_edits" "_law_edits" (defArgs s__law_edits) (defBody s__law_edits) (defScope s__law_edits) .none kV__law_edits dc__law_edits pm__law_edits an__law_edits cd__law_edits ct__law_edits), sl__law_edits⟩) (c__law_edits : PySem.W.codeIn K cd__law_edits "_law_edits" = true) (k__law_edits : PySem.W.keepIn K (.ref f__law_edits) = true)
    {f__law_odd_edit : Addr} {od__law_odd_edit an__law_odd_edit : Option Addr} {sl__law_odd_edit : Array (Option Value)} {oc__law_odd_edit kV__law_odd_edit dc__law_odd_edit pm__law_odd_edit cd__law_odd_edit ct__law_odd_edit : Value}
    (a__law_odd_edit : PySem.W.nsIn K mainGlobals "_law_odd_edit" = some (some (.ref f__law_odd_edit))) (l__law_odd_edit : K.lookup f__law_odd_edit = some ⟨oc__law_odd_edit, od__law_odd_edit, .func (PySem.W.fnOf "_law_odd_edit" "_law_odd_edit" (defArgs s__law_odd_edit) (defBody s__law_odd_edit) (defScope s__law_odd_edit) .none kV__law_odd_edit dc__law_odd_edit pm__law_odd_edit an__law_odd_edit cd__law_odd_edit ct__law_odd_edit), sl__law_odd_edit⟩) (c__law_odd_edit : PySem.W.codeIn K cd__law_odd_edit "_law_odd_edit" = true) (k__law_odd_edit : PySem.W.keepIn K (.ref f__law_odd_edit) = true)
    {f__law_bad_edits : Addr} {od__law_bad_edits an__law_bad_edits : Option Addr} {sl__law_bad_edits : Array (Option Value)} {oc__law_bad_edits kV__law_bad_edits dc__law_bad_edits pm__law_bad_edits cd__law_bad_edits ct__law_bad_edits : Value}
    (a__law_bad_edits : PySem.W.nsIn K mainGlobals "_law_bad_edits" = some (some (.ref f__law_bad_edits))) (l__law_bad_edits : K.lookup f__law_bad_edits = some ⟨oc__law_bad_edits, od__law_bad_edits, .func (PySem.W.fnOf "_law_bad_edits" "_law_bad_edits" (defArgs s__law_bad_edits) (defBody s__law_bad_edits) (defScope s__law_bad_edits) .none kV__law_bad_edits dc__law_bad_edits pm__law_bad_edits an__law_bad_edits cd__law_bad_edits ct__law_bad_edits), sl__law_bad_edits⟩) (c__law_bad_edits : PySem.W.codeIn K cd__law_bad_edits "_law_bad_edits" = true) (k__law_bad_edits : PySem.W.keepIn K (.ref f__law_bad_edits) = true)
    {f__law_deed : Addr} {od__law_deed an__law_deed : Option Addr} {sl__law_deed : Array (Option Value)} {oc__law_deed kV__law_deed dc__law_deed pm__law_deed cd__law_deed ct__law_deed : Value}
    (a__law_deed : PySem.W.nsIn K mainGlobals "_law_deed" = some (some (.ref f__law_deed))) (l__law_deed : K.lookup f__law_deed = some ⟨oc__law_deed, od__law_deed, .func (PySem.W.fnOf "_law_deed" "_law_deed" (defArgs s__law_deed) (defBody s__law_deed) (defScope s__law_deed) .none kV__law_deed dc__law_deed pm__law_deed an__law_deed cd__law_deed ct__law_deed), sl__law_deed⟩) (c__law_deed : PySem.W.codeIn K cd__law_deed "_law_deed" = true) (k__law_deed : PySem.W.keepIn K (.ref f__law_deed) = true)
    {f__law_kind : Addr} {od__law_kind an__law_kind : Option Addr} {sl__law_kind : Array (Option Value)} {oc__law_kind kV__law_kind dc__law_kind pm__law_kind cd__law_kind ct__law_kind : Value}
    (a__law_kind : PySem.W.nsIn K mainGlobals "_law_kind" = some (some (.ref f__law_kind))) (l__law_kind : K.lookup f__law_kind = some ⟨oc__law_kind, od__law_kind, .func (PySem.W.fnOf "_law_kind" "_law_kind" (defArgs s__law_kind) (defBody s__law_kind) (defScope s__law_kind) .none kV__law_kind dc__law_kind pm__law_kind an__law_kind cd__law_kind ct__law_kind), sl__law_kind⟩) (c__law_kind : PySem.W.codeIn K cd__law_kind "_law_kind" = true) (k__law_kind : PySem.W.keepIn K (.ref f__law_kind) = true)
    {f__law_stretch_kind : Addr} {od__law_stretch_kind an__law_stretch_kind : Option Addr} {sl__law_stretch_kind : Array (Option Value)} {oc__law_stretch_kind kV__law_stretch_kind dc__law_stretch_kind pm__law_stretch_kind cd__law_stretch_kind ct__law_stretch_kind : Value}
    (a__law_stretch_kind : PySem.W.nsIn K mainGlobals "_law_stretch_kind" = some (some (.ref f__law_stretch_kind))) (l__law_stretch_kind : K.lookup f__law_stretch_kind = some ⟨oc__law_stretch_kind, od__law_stretch_kind, .func (PySem.W.fnOf "_law_stretch_kind" "_law_stretch_kind" (defArgs s__law_stretch_kind) (defBody s__law_stretch_kind) (defScope s__law_stretch_kind) .none kV__law_stretch_kind dc__law_stretch_kind pm__law_stretch_kind an__law_stretch_kind cd__law_stretch_kind ct__law_stretch_kind), sl__law_stretch_kind⟩) (c__law_stretch_kind : PySem.W.codeIn K cd__law_stretch_kind "_law_stretch_kind" = true) (k__law_stretch_kind : PySem.W.keepIn K (.ref f__law_stretch_kind) = true)
    {f_law : Addr} {od_law an_law : Option Addr} {sl_law : Array (Option Value)} {oc_law kV_law dc_law pm_law cd_law ct_law : Value}
    (a_law : PySem.W.nsIn K mainGlobals "law" = some (some (.ref f_law))) (l_law : K.lookup f_law = some ⟨oc_law, od_law, .func (PySem.W.fnOf "law" "law" (defArgs s_law) (defBody s_law) (defScope s_law) .none kV_law dc_law pm_law an_law cd_law ct_law), sl_law⟩) (c_law : PySem.W.codeIn K cd_law "law" = true) (k_law : PySem.W.keepIn K (.ref f_law) = true)
    {C_NoFraction : Addr}
    (xca_NoFraction : PySem.W.nsIn K mainGlobals "NoFraction" = some (some (.ref C_NoFraction)))
    (xchg_NoFraction : PySem.W.findIn K (.ref C_NoFraction) "__getattribute__" = some (some (.builtin "BaseException.__getattribute__")))
    (xchk_NoFraction : PySem.W.findIn K (.ref C_NoFraction) "__getattr__" = some none)
    (xchs_NoFraction : PySem.W.subIn K (.ref C_NoFraction) (.type "BaseException") = some true)
    (xchd_NoFraction : PySem.W.hasDictIn K C_NoFraction = true)
    (xcha_NoFraction : PySem.W.findIn K (.ref C_NoFraction) "__class__" = some (some (.builtin "object.__class__")))
    (xchm_NoFraction : PySem.W.mroIn K C_NoFraction (.type "object") = some true)
    (xcty_NoFraction : PySem.W.typeIn K (.ref C_NoFraction) = some (.type "type"))
    (xckp_NoFraction : PySem.W.keepIn K (.ref C_NoFraction) = true)
    (xcve_NoFraction : PySem.W.subIn K (.ref C_NoFraction) (.type "ValueError") = some true)
    (xcis_NoFraction : PySem.W.isClsIn K C_NoFraction = true)
    (xcself_NoFraction : PySem.W.subIn K (.ref C_NoFraction) (.ref C_NoFraction) = some true)
    (xcex_NoFraction : PySem.W.excIn K C_NoFraction [.type "ValueError", .type "Exception", .type "BaseException", .type "object"] "ValueError.__new__" = true)
    {C_NoEdits : Addr}
    (xca_NoEdits : PySem.W.nsIn K mainGlobals "NoEdits" = some (some (.ref C_NoEdits)))
    (xchg_NoEdits : PySem.W.findIn K (.ref C_NoEdits) "__getattribute__" = some (some (.builtin "BaseException.__getattribute__")))
    (xchk_NoEdits : PySem.W.findIn K (.ref C_NoEdits) "__getattr__" = some none)
    (xchs_NoEdits : PySem.W.subIn K (.ref C_NoEdits) (.type "BaseException") = some true)
    (xchd_NoEdits : PySem.W.hasDictIn K C_NoEdits = true)
    (xcha_NoEdits : PySem.W.findIn K (.ref C_NoEdits) "__class__" = some (some (.builtin "object.__class__")))
    (xchm_NoEdits : PySem.W.mroIn K C_NoEdits (.type "object") = some true)
    (xcty_NoEdits : PySem.W.typeIn K (.ref C_NoEdits) = some (.type "type"))
    (xckp_NoEdits : PySem.W.keepIn K (.ref C_NoEdits) = true)
    (xcve_NoEdits : PySem.W.subIn K (.ref C_NoEdits) (.type "ValueError") = some true)
    (xcis_NoEdits : PySem.W.isClsIn K C_NoEdits = true)
    (xcself_NoEdits : PySem.W.subIn K (.ref C_NoEdits) (.ref C_NoEdits) = some true)
    (xcex_NoEdits : PySem.W.excIn K C_NoEdits [.type "ValueError", .type "Exception", .type "BaseException", .type "object"] "ValueError.__new__" = true)
    {C_NoMoment : Addr}
    (xca_NoMoment : PySem.W.nsIn K mainGlobals "NoMoment" = some (some (.ref C_NoMoment)))
    (xchg_NoMoment : PySem.W.findIn K (.ref C_NoMoment) "__getattribute__" = some (some (.builtin "BaseException.__getattribute__")))
    (xchk_NoMoment : PySem.W.findIn K (.ref C_NoMoment) "__getattr__" = some none)
    (xchs_NoMoment : PySem.W.subIn K (.ref C_NoMoment) (.type "BaseException") = some true)
    (xchd_NoMoment : PySem.W.hasDictIn K C_NoMoment = true)
    (xcha_NoMoment : PySem.W.findIn K (.ref C_NoMoment) "__class__" = some (some (.builtin "object.__class__")))
    (xchm_NoMoment : PySem.W.mroIn K C_NoMoment (.type "object") = some true)
    (xcty_NoMoment : PySem.W.typeIn K (.ref C_NoMoment) = some (.type "type"))
    (xckp_NoMoment : PySem.W.keepIn K (.ref C_NoMoment) = true)
    (xcve_NoMoment : PySem.W.subIn K (.ref C_NoMoment) (.type "ValueError") = some true)
    (xcis_NoMoment : PySem.W.isClsIn K C_NoMoment = true)
    (xcself_NoMoment : PySem.W.subIn K (.ref C_NoMoment) (.ref C_NoMoment) = some true)
    (xcex_NoMoment : PySem.W.excIn K C_NoMoment [.type "ValueError", .type "Exception", .type "BaseException", .type "object"] "ValueError.__new__" = true)
    {C_ScrollError : Addr}
    (xca_ScrollError : PySem.W.nsIn K mainGlobals "ScrollError" = some (some (.ref C_ScrollError)))
    (xchg_ScrollError : PySem.W.findIn K (.ref C_ScrollError) "__getattribute__" = some (some (.builtin "BaseException.__getattribute__")))
    (xchk_ScrollError : PySem.W.findIn K (.ref C_ScrollError) "__getattr__" = some none)
    (xchs_ScrollError : PySem.W.subIn K (.ref C_ScrollError) (.type "BaseException") = some true)
    (xchd_ScrollError : PySem.W.hasDictIn K C_ScrollError = true)
    (xcha_ScrollError : PySem.W.findIn K (.ref C_ScrollError) "__class__" = some (some (.builtin "object.__class__")))
    (xchm_ScrollError : PySem.W.mroIn K C_ScrollError (.type "object") = some true)
    (xcty_ScrollError : PySem.W.typeIn K (.ref C_ScrollError) = some (.type "type"))
    (xckp_ScrollError : PySem.W.keepIn K (.ref C_ScrollError) = true)
    (xcve_ScrollError : PySem.W.subIn K (.ref C_ScrollError) (.type "ValueError") = some true)
    (xcis_ScrollError : PySem.W.isClsIn K C_ScrollError = true)
    (xcself_ScrollError : PySem.W.subIn K (.ref C_ScrollError) (.ref C_ScrollError) = some true)
    (xcex_ScrollError : PySem.W.excIn K C_ScrollError [.type "ValueError", .type "Exception", .type "BaseException", .type "object"] "ValueError.__new__" = true)
    {C_NOUGHT : Addr} {dC_NOUGHT : Option Addr} {nC_NOUGHT : Nat} {sC_NOUGHT : Array (Option Value)} {tk_NOUGHT_0 tk_NOUGHT_1 : Tok}
    (cg_NOUGHT : PySem.W.nsIn K mainGlobals "NOUGHT" = some (some (.ref C_NOUGHT))) (cl_NOUGHT : K.lookup C_NOUGHT = some ⟨.type "tuple", dC_NOUGHT, .seq #[.int 0 tk_NOUGHT_0, .int 1 tk_NOUGHT_1] nC_NOUGHT, sC_NOUGHT⟩)
    (p_NoEdits_NoEdits : PySem.W.subIn K (.ref C_NoEdits) (.ref C_NoEdits) = some true)
    (p_NoEdits_NoMoment : PySem.W.subIn K (.ref C_NoEdits) (.ref C_NoMoment) = some false)
    (p_NoEdits_ScrollError : PySem.W.subIn K (.ref C_NoEdits) (.ref C_ScrollError) = some true)
    (p_NoMoment_NoEdits : PySem.W.subIn K (.ref C_NoMoment) (.ref C_NoEdits) = some false)
    (p_NoMoment_NoMoment : PySem.W.subIn K (.ref C_NoMoment) (.ref C_NoMoment) = some true)
    (p_NoMoment_ScrollError : PySem.W.subIn K (.ref C_NoMoment) (.ref C_ScrollError) = some true)
    (xhn : PySem.W.specialIn K (.builtin "object.__class__") "__get__" = some (some (.builtin "getset_descriptor.__get__"))) (xht : PySem.W.takesIn K (.builtin "object.__class__") = some true)
    (z_abs : PySem.W.nsIn K mainGlobals "abs" = some none)
    (z_isinstance : PySem.W.nsIn K mainGlobals "isinstance" = some none)
    (z_int : PySem.W.nsIn K mainGlobals "int" = some none)
    (z_bool : PySem.W.nsIn K mainGlobals "bool" = some none)
    (z_tuple : PySem.W.nsIn K mainGlobals "tuple" = some none)
    (z_len : PySem.W.nsIn K mainGlobals "len" = some none)
    (z_list : PySem.W.nsIn K mainGlobals "list" = some none)
    (z_all : PySem.W.nsIn K mainGlobals "all" = some none)
    (z_range : PySem.W.nsIn K mainGlobals "range" = some none)
    (z_dict : PySem.W.nsIn K mainGlobals "dict" = some none)
    (z_ValueError : PySem.W.nsIn K mainGlobals "ValueError" = some none)
    : ∃ fd : FuncData, (∀ (s : Shared) (v : Value), BindsTo s fd ⟨[v], []⟩ [("_law_script", v)]) ∧ ∀ base : Heap, K.In base → base.Ns mainGlobals mg → FnOk l.prog w K mg base CX0 10 fa fd ["_law_script"] (spTop K) := by
  have e := hfa.symm.trans (PySem.W.mg_of X G a_law)
  cases e
  have F_divisor := fun_mk (st := s_divisor) l_divisor c_divisor k_divisor
  have b_divisor := F_divisor.binds (ps := ["one", "other"]) fun _ _ _ _ _ _ us hl => match us, hl with | [_, _], _ => rfl
  have g_divisor := PySem.W.mg_of X G a_divisor
  have F_is_number := fun_mk (st := s_is_number) l_is_number c_is_number k_is_number
  have b_is_number := F_is_number.binds (ps := ["thing"]) fun _ _ _ _ _ _ us hl => match us, hl with | [_], _ => rfl
  have g_is_number := PySem.W.mg_of X G a_is_number
  have F_fraction := funV_mk (st := s_fraction) (dv := [.int 1 tk_fraction_bottom]) l_fraction c_fraction k_fraction lT_fraction
  have b_fraction := (F_fraction.binds (ps := ["top", "bottom"]) 2 1 rfl (fun _ _ _ _ _ _ _ us hl => match us, hl with | [_, _], _ => ⟨_, rfl, rfl⟩) : L2.Binds K _ ["top", "bottom"] [])
  have g_fraction := PySem.W.mg_of X G a_fraction
  have F_is_fraction := fun_mk (st := s_is_fraction) l_is_fraction c_is_fraction k_is_fraction
  have b_is_fraction := F_is_fraction.binds (ps := ["thing"]) fun _ _ _ _ _ _ us hl => match us, hl with | [_], _ => rfl
  have g_is_fraction := PySem.W.mg_of X G a_is_fraction
  have F_is_moment := fun_mk (st := s_is_moment) l_is_moment c_is_moment k_is_moment
  have b_is_moment := F_is_moment.binds (ps := ["thing"]) fun _ _ _ _ _ _ us hl => match us, hl with | [_], _ => rfl
  have g_is_moment := PySem.W.mg_of X G a_is_moment
  have F_plus := fun_mk (st := s_plus) l_plus c_plus k_plus
  have b_plus := F_plus.binds (ps := ["one", "other"]) fun _ _ _ _ _ _ us hl => match us, hl with | [_, _], _ => rfl
  have g_plus := PySem.W.mg_of X G a_plus
  have F_times := fun_mk (st := s_times) l_times c_times k_times
  have b_times := F_times.binds (ps := ["one", "other"]) fun _ _ _ _ _ _ us hl => match us, hl with | [_, _], _ => rfl
  have g_times := PySem.W.mg_of X G a_times
  have F_less := fun_mk (st := s_less) l_less c_less k_less
  have b_less := F_less.binds (ps := ["one", "other"]) fun _ _ _ _ _ _ us hl => match us, hl with | [_, _], _ => rfl
  have g_less := PySem.W.mg_of X G a_less
  have F_is_edit := fun_mk (st := s_is_edit) l_is_edit c_is_edit k_is_edit
  have b_is_edit := F_is_edit.binds (ps := ["thing"]) fun _ _ _ _ _ _ us hl => match us, hl with | [_], _ => rfl
  have g_is_edit := PySem.W.mg_of X G a_is_edit
  have F_is_edits := fun_mk (st := s_is_edits) l_is_edits c_is_edits k_is_edits
  have b_is_edits := F_is_edits.binds (ps := ["thing"]) fun _ _ _ _ _ _ us hl => match us, hl with | [_], _ => rfl
  have g_is_edits := PySem.W.mg_of X G a_is_edits
  have F_sure_edits := fun_mk (st := s_sure_edits) l_sure_edits c_sure_edits k_sure_edits
  have b_sure_edits := F_sure_edits.binds (ps := ["thing"]) fun _ _ _ _ _ _ us hl => match us, hl with | [_], _ => rfl
  have g_sure_edits := PySem.W.mg_of X G a_sure_edits
  have F_sure_moment := fun_mk (st := s_sure_moment) l_sure_moment c_sure_moment k_sure_moment
  have b_sure_moment := F_sure_moment.binds (ps := ["thing"]) fun _ _ _ _ _ _ us hl => match us, hl with | [_], _ => rfl
  have g_sure_moment := PySem.W.mg_of X G a_sure_moment
  have F_sure_stretch := fun_mk (st := s_sure_stretch) l_sure_stretch c_sure_stretch k_sure_stretch
  have b_sure_stretch := F_sure_stretch.binds (ps := ["low", "high"]) fun _ _ _ _ _ _ us hl => match us, hl with | [_, _], _ => rfl
  have g_sure_stretch := PySem.W.mg_of X G a_sure_stretch
  have F_led_by := fun_mk (st := s_led_by) l_led_by c_led_by k_led_by
  have b_led_by := F_led_by.binds (ps := ["edit", "later"]) fun _ _ _ _ _ _ us hl => match us, hl with | [_, _], _ => rfl
  have g_led_by := PySem.W.mg_of X G a_led_by
  have F_total := fun_mk (st := s_total__any) l_total c_total k_total
  have b_total := F_total.binds (ps := ["edits"]) fun _ _ _ _ _ _ us hl => match us, hl with | [_], _ => rfl
  have g_total := PySem.W.mg_of X G a_total
  have F_mapped := fun_mk (st := s_mapped__any) l_mapped c_mapped k_mapped
  have b_mapped := F_mapped.binds (ps := ["edits", "t"]) fun _ _ _ _ _ _ us hl => match us, hl with | [_, _], _ => rfl
  have g_mapped := PySem.W.mg_of X G a_mapped
  have F_goes_on := fun_mk (st := s_goes_on) l_goes_on c_goes_on k_goes_on
  have b_goes_on := F_goes_on.binds (ps := ["one", "other"]) fun _ _ _ _ _ _ us hl => match us, hl with | [_, _], _ => rfl
  have g_goes_on := PySem.W.mg_of X G a_goes_on
  have F_tidy := fun_mk (st := s_tidy__any) l_tidy c_tidy k_tidy
  have b_tidy := F_tidy.binds (ps := ["edits"]) fun _ _ _ _ _ _ us hl => match us, hl with | [_], _ => rfl
  have g_tidy := PySem.W.mg_of X G a_tidy
  have F_over := fun_mk (st := s_over__any) l_over c_over k_over
  have b_over := F_over.binds (ps := ["outer", "inner"]) fun _ _ _ _ _ _ us hl => match us, hl with | [_, _], _ => rfl
  have g_over := PySem.W.mg_of X G a_over
  have F_part := fun_mk (st := s_part__any) l_part c_part k_part
  have b_part := F_part.binds (ps := ["edits", "low", "high"]) fun _ _ _ _ _ _ us hl => match us, hl with | [_, _, _], _ => rfl
  have g_part := PySem.W.mg_of X G a_part
  have F_after := fun_mk (st := s_after__any) l_after c_after k_after
  have b_after := F_after.binds (ps := ["one", "other"]) fun _ _ _ _ _ _ us hl => match us, hl with | [_, _], _ => rfl
  have g_after := PySem.W.mg_of X G a_after
  have F_parted := fun_mk (st := s_parted__any) l_parted c_parted k_parted
  have b_parted := F_parted.binds (ps := ["one", "other"]) fun _ _ _ _ _ _ us hl => match us, hl with | [_, _], _ => rfl
  have g_parted := PySem.W.mg_of X G a_parted
  have F_stretches := fun_mk (st := s_stretches__any) l_stretches c_stretches k_stretches
  have b_stretches := F_stretches.binds (ps := ["edits", "low", "high"]) fun _ _ _ _ _ _ us hl => match us, hl with | [_, _, _], _ => rfl
  have g_stretches := PySem.W.mg_of X G a_stretches
  have F__law_cell_at := fun_mk (st := s__law_cell_at) l__law_cell_at c__law_cell_at k__law_cell_at
  have b__law_cell_at := F__law_cell_at.binds (ps := ["_law_script", "_law_k"]) fun _ _ _ _ _ _ us hl => match us, hl with | [_, _], _ => rfl
  have g__law_cell_at := PySem.W.mg_of X G a__law_cell_at
  have F__law_digit := fun_mk (st := s__law_digit) l__law_digit c__law_digit k__law_digit
  have b__law_digit := F__law_digit.binds (ps := ["_law_state", "_law_base"]) fun _ _ _ _ _ _ us hl => match us, hl with | [_, _], _ => rfl
  have g__law_digit := PySem.W.mg_of X G a__law_digit
  have F__law_shared := fun_mk (st := s__law_shared) l__law_shared c__law_shared k__law_shared
  have b__law_shared := F__law_shared.binds (ps := ["_law_one", "_law_other"]) fun _ _ _ _ _ _ us hl => match us, hl with | [_, _], _ => rfl
  have g__law_shared := PySem.W.mg_of X G a__law_shared
  have F__law_lowest := fun_mk (st := s__law_lowest) l__law_lowest c__law_lowest k__law_lowest
  have b__law_lowest := F__law_lowest.binds (ps := ["_law_top", "_law_bottom"]) fun _ _ _ _ _ _ us hl => match us, hl with | [_, _], _ => rfl
  have g__law_lowest := PySem.W.mg_of X G a__law_lowest
  have F__law_plus := fun_mk (st := s__law_plus) l__law_plus c__law_plus k__law_plus
  have b__law_plus := F__law_plus.binds (ps := ["_law_one", "_law_other"]) fun _ _ _ _ _ _ us hl => match us, hl with | [_, _], _ => rfl
  have g__law_plus := PySem.W.mg_of X G a__law_plus
  have F__law_times := fun_mk (st := s__law_times) l__law_times c__law_times k__law_times
  have b__law_times := F__law_times.binds (ps := ["_law_one", "_law_other"]) fun _ _ _ _ _ _ us hl => match us, hl with | [_, _], _ => rfl
  have g__law_times := PySem.W.mg_of X G a__law_times
  have F__law_amount := fun_mk (st := s__law_amount) l__law_amount c__law_amount k__law_amount
  have b__law_amount := F__law_amount.binds (ps := ["_law_state"]) fun _ _ _ _ _ _ us hl => match us, hl with | [_], _ => rfl
  have g__law_amount := PySem.W.mg_of X G a__law_amount
  have F__law_edit := fun_mk (st := s__law_edit) l__law_edit c__law_edit k__law_edit
  have b__law_edit := F__law_edit.binds (ps := ["_law_state", "_law_ahead"]) fun _ _ _ _ _ _ us hl => match us, hl with | [_, _], _ => rfl
  have g__law_edit := PySem.W.mg_of X G a__law_edit
  have F__law_edits := fun_mk (st := s__law_edits) l__law_edits c__law_edits k__law_edits
  have b__law_edits := F__law_edits.binds (ps := ["_law_state", "_law_few"]) fun _ _ _ _ _ _ us hl => match us, hl with | [_, _], _ => rfl
  have g__law_edits := PySem.W.mg_of X G a__law_edits
  have F__law_odd_edit := fun_mk (st := s__law_odd_edit) l__law_odd_edit c__law_odd_edit k__law_odd_edit
  have b__law_odd_edit := F__law_odd_edit.binds (ps := ["_law_state", "_law_edit_here"]) fun _ _ _ _ _ _ us hl => match us, hl with | [_, _], _ => rfl
  have g__law_odd_edit := PySem.W.mg_of X G a__law_odd_edit
  have F__law_bad_edits := fun_mk (st := s__law_bad_edits) l__law_bad_edits c__law_bad_edits k__law_bad_edits
  have b__law_bad_edits := F__law_bad_edits.binds (ps := ["_law_state", "_law_edits_here"]) fun _ _ _ _ _ _ us hl => match us, hl with | [_, _], _ => rfl
  have g__law_bad_edits := PySem.W.mg_of X G a__law_bad_edits
  have F__law_deed := fun_mk (st := s__law_deed) l__law_deed c__law_deed k__law_deed
  have b__law_deed := F__law_deed.binds (ps := ["_law_way", "_law_bad", "_law_good", "_law_t"]) fun _ _ _ _ _ _ us hl => match us, hl with | [_, _, _, _], _ => rfl
  have g__law_deed := PySem.W.mg_of X G a__law_deed
  have F__law_kind := fun_mk (st := s__law_kind) l__law_kind c__law_kind k__law_kind
  have b__law_kind := F__law_kind.binds (ps := ["_law_way", "_law_bad", "_law_good", "_law_t"]) fun _ _ _ _ _ _ us hl => match us, hl with | [_, _, _, _], _ => rfl
  have g__law_kind := PySem.W.mg_of X G a__law_kind
  have F__law_stretch_kind := fun_mk (st := s__law_stretch_kind) l__law_stretch_kind c__law_stretch_kind k__law_stretch_kind
  have b__law_stretch_kind := F__law_stretch_kind.binds (ps := ["_law_way", "_law_good", "_law_low", "_law_high"]) fun _ _ _ _ _ _ us hl => match us, hl with | [_, _, _, _], _ => rfl
  have g__law_stretch_kind := PySem.W.mg_of X G a__law_stretch_kind
  have F_law := fun_mk (st := s_law) l_law c_law k_law
  have b_law := F_law.binds (ps := ["_law_script"]) fun _ _ _ _ _ _ us hl => match us, hl with | [_], _ => rfl
  have g_law := PySem.W.mg_of X G a_law
  have F_total__any := F_total
  have b_total__any := b_total
  have g_total__any := g_total
  have k_total__any := k_total
  have F_mapped__any := F_mapped
  have b_mapped__any := b_mapped
  have g_mapped__any := g_mapped
  have k_mapped__any := k_mapped
  have F_tidy__any := F_tidy
  have b_tidy__any := b_tidy
  have g_tidy__any := g_tidy
  have k_tidy__any := k_tidy
  have F_over__any := F_over
  have b_over__any := b_over
  have g_over__any := g_over
  have k_over__any := k_over
  have F_part__any := F_part
  have b_part__any := b_part
  have g_part__any := g_part
  have k_part__any := k_part
  have F_after__any := F_after
  have b_after__any := b_after
  have g_after__any := g_after
  have k_after__any := k_after
  have F_parted__any := F_parted
  have b_parted__any := b_parted
  have g_parted__any := g_parted
  have k_parted__any := k_parted
  have F_stretches__any := F_stretches
  have b_stretches__any := b_stretches
  have g_stretches__any := g_stretches
  have k_stretches__any := k_stretches
  have T_NoFraction : ExcR K mg "NoFraction" C_NoFraction := ⟨⟨PySem.W.mg_of X G xca_NoFraction, ⟨xchg_NoFraction, xchk_NoFraction, xchs_NoFraction, xchd_NoFraction, xcha_NoFraction, xhn, xht, xchm_NoFraction⟩, xcty_NoFraction, xckp_NoFraction, xcve_NoFraction, xcis_NoFraction, xcself_NoFraction⟩, xcex_NoFraction⟩
  have T_NoEdits : ExcR K mg "NoEdits" C_NoEdits := ⟨⟨PySem.W.mg_of X G xca_NoEdits, ⟨xchg_NoEdits, xchk_NoEdits, xchs_NoEdits, xchd_NoEdits, xcha_NoEdits, xhn, xht, xchm_NoEdits⟩, xcty_NoEdits, xckp_NoEdits, xcve_NoEdits, xcis_NoEdits, xcself_NoEdits⟩, xcex_NoEdits⟩
  have T_NoMoment : ExcR K mg "NoMoment" C_NoMoment := ⟨⟨PySem.W.mg_of X G xca_NoMoment, ⟨xchg_NoMoment, xchk_NoMoment, xchs_NoMoment, xchd_NoMoment, xcha_NoMoment, xhn, xht, xchm_NoMoment⟩, xcty_NoMoment, xckp_NoMoment, xcve_NoMoment, xcis_NoMoment, xcself_NoMoment⟩, xcex_NoMoment⟩
  have T_ScrollError : ExcR K mg "ScrollError" C_ScrollError := ⟨⟨PySem.W.mg_of X G xca_ScrollError, ⟨xchg_ScrollError, xchk_ScrollError, xchs_ScrollError, xchd_ScrollError, xcha_ScrollError, xhn, xht, xchm_ScrollError⟩, xcty_ScrollError, xckp_ScrollError, xcve_ScrollError, xcis_ScrollError, xcself_ScrollError⟩, xcex_ScrollError⟩
  have c_NOUGHT : CT K mg "NOUGHT" C_NOUGHT (⟨0, 1⟩ : (Tp2 Int Int)) := ⟨PySem.W.mg_of X G cg_NOUGHT, fun B => .tup (Or.inr ⟨_, _, _, cl_NOUGHT, rfl, rfl, by show 2 ≤ sizeLine; decide, (.cons (show L2.RelV (.int 0) (.int 0 tk_NOUGHT_0) from ⟨_, rfl⟩) (.cons (show L2.RelV (.int 1) (.int 1 tk_NOUGHT_1) from ⟨_, rfl⟩) .nil))⟩) (.cons (Rep.int _) (.cons (Rep.int _) .nil))⟩
  have bI_abs := PySem.W.mg_none_of X G z_abs
  have bI_isinstance := PySem.W.mg_none_of X G z_isinstance
  have bI_int := PySem.W.mg_none_of X G z_int
  have bI_bool := PySem.W.mg_none_of X G z_bool
  have bI_tuple := PySem.W.mg_none_of X G z_tuple
  have bI_len := PySem.W.mg_none_of X G z_len
  have bI_list := PySem.W.mg_none_of X G z_list
  have bI_all := PySem.W.mg_none_of X G z_all
  have bI_range := PySem.W.mg_none_of X G z_range
  have bI_dict := PySem.W.mg_none_of X G z_dict
  have bI_ValueError := PySem.W.mg_none_of X G z_ValueError
  refine ⟨_, fun s v => (.of_eq rfl : BindsTo s (PySem.W.fnOf "law" "law" (defArgs s_law) (defBody s_law) (defScope s_law) .none kV_law dc_law pm_law an_law cd_law ct_law) ⟨[v], []⟩ [("_law_script", v)]), fun base _ _ => ?_⟩
  have G_divisor := ok_divisor (Pr := l.prog) (wo := w) (base := base) (mg := mg) F_divisor bI_abs
  have G_is_number := ok_is_number (Pr := l.prog) (wo := w) (base := base) (mg := mg) F_is_number bI_isinstance bI_int bI_bool
  have G_less := ok_less (Pr := l.prog) (wo := w) (base := base) (mg := mg) F_less
  have G__law_cell_at := ok__law_cell_at (Pr := l.prog) (wo := w) (base := base) (mg := mg) F__law_cell_at bI_len
  have G__law_digit := ok__law_digit (Pr := l.prog) (wo := w) (base := base) (mg := mg) F__law_digit bI_len
  have G__law_shared := ok__law_shared (Pr := l.prog) (wo := w) (base := base) (mg := mg) F__law_shared bI_abs
  have G_fraction := ok_fraction (Pr := l.prog) (wo := w) (base := base) (mg := mg) F_fraction T_NoFraction g_divisor k_divisor b_divisor G_divisor g_is_number k_is_number b_is_number G_is_number
  have G_is_fraction := ok_is_fraction (Pr := l.prog) (wo := w) (base := base) (mg := mg) F_is_fraction g_divisor k_divisor b_divisor G_divisor g_is_number k_is_number b_is_number G_is_number bI_isinstance bI_tuple bI_len
  have G__law_lowest := ok__law_lowest (Pr := l.prog) (wo := w) (base := base) (mg := mg) F__law_lowest g__law_shared k__law_shared b__law_shared G__law_shared
  have G__law_odd_edit := ok__law_odd_edit (Pr := l.prog) (wo := w) (base := base) (mg := mg) F__law_odd_edit g__law_digit k__law_digit b__law_digit G__law_digit bI_int bI_len bI_list
  have G_is_moment := ok_is_moment (Pr := l.prog) (wo := w) (base := base) (mg := mg) F_is_moment g_is_fraction k_is_fraction b_is_fraction G_is_fraction
  have G_plus := ok_plus (Pr := l.prog) (wo := w) (base := base) (mg := mg) F_plus g_fraction k_fraction b_fraction G_fraction
  have G_times := ok_times (Pr := l.prog) (wo := w) (base := base) (mg := mg) F_times g_fraction k_fraction b_fraction G_fraction
  have G__law_plus := ok__law_plus (Pr := l.prog) (wo := w) (base := base) (mg := mg) F__law_plus g__law_lowest k__law_lowest b__law_lowest G__law_lowest
  have G__law_times := ok__law_times (Pr := l.prog) (wo := w) (base := base) (mg := mg) F__law_times g__law_lowest k__law_lowest b__law_lowest G__law_lowest
  have G__law_amount := ok__law_amount (Pr := l.prog) (wo := w) (base := base) (mg := mg) F__law_amount g__law_digit k__law_digit b__law_digit G__law_digit g__law_lowest k__law_lowest b__law_lowest G__law_lowest
  have G__law_bad_edits := ok__law_bad_edits (Pr := l.prog) (wo := w) (base := base) (mg := mg) F__law_bad_edits g__law_digit k__law_digit b__law_digit G__law_digit g__law_odd_edit k__law_odd_edit b__law_odd_edit G__law_odd_edit bI_len bI_tuple bI_dict bI_range
  have G_is_edit := ok_is_edit (Pr := l.prog) (wo := w) (base := base) (mg := mg) F_is_edit c_NOUGHT g_is_moment k_is_moment b_is_moment G_is_moment g_is_fraction k_is_fraction b_is_fraction G_is_fraction g_less k_less b_less G_less bI_isinstance bI_tuple bI_len
  have G_sure_moment := ok_sure_moment (Pr := l.prog) (wo := w) (base := base) (mg := mg) F_sure_moment T_NoMoment g_is_moment k_is_moment b_is_moment G_is_moment
  have G_led_by := ok_led_by (Pr := l.prog) (wo := w) (base := base) (mg := mg) F_led_by g_plus k_plus b_plus G_plus g_times k_times b_times G_times
  have G__law_edit := ok__law_edit (Pr := l.prog) (wo := w) (base := base) (mg := mg) F__law_edit g__law_digit k__law_digit b__law_digit G__law_digit g__law_plus k__law_plus b__law_plus G__law_plus g__law_amount k__law_amount b__law_amount G__law_amount g__law_lowest k__law_lowest b__law_lowest G__law_lowest g__law_times k__law_times b__law_times G__law_times
  have G_is_edits := ok_is_edits (Pr := l.prog) (wo := w) (base := base) (mg := mg) F_is_edits g_is_edit k_is_edit b_is_edit G_is_edit bI_isinstance bI_list bI_all
  have G_sure_stretch := ok_sure_stretch (Pr := l.prog) (wo := w) (base := base) (mg := mg) F_sure_stretch T_NoMoment g_sure_moment k_sure_moment b_sure_moment G_sure_moment g_less k_less b_less G_less
  have G_goes_on := ok_goes_on (Pr := l.prog) (wo := w) (base := base) (mg := mg) F_goes_on g_led_by k_led_by b_led_by G_led_by
  have G__law_edits := ok__law_edits (Pr := l.prog) (wo := w) (base := base) (mg := mg) F__law_edits g__law_digit k__law_digit b__law_digit G__law_digit g__law_edit k__law_edit b__law_edit G__law_edit bI_range
  have G_sure_edits := ok_sure_edits (Pr := l.prog) (wo := w) (base := base) (mg := mg) F_sure_edits T_NoEdits g_is_edits k_is_edits b_is_edits G_is_edits
  have G_total__any := ok_total__any (Pr := l.prog) (wo := w) (base := base) (mg := mg) F_total__any g_sure_edits k_sure_edits b_sure_edits G_sure_edits
  have G_total := ok_total (Pr := l.prog) (wo := w) (base := base) (mg := mg) F_total c_NOUGHT g_sure_edits k_sure_edits b_sure_edits G_sure_edits g_plus k_plus b_plus G_plus
  have G_mapped__any := ok_mapped__any (Pr := l.prog) (wo := w) (base := base) (mg := mg) F_mapped__any g_sure_edits k_sure_edits b_sure_edits G_sure_edits g_sure_moment k_sure_moment b_sure_moment G_sure_moment
  have G_tidy__any := ok_tidy__any (Pr := l.prog) (wo := w) (base := base) (mg := mg) F_tidy__any g_sure_edits k_sure_edits b_sure_edits G_sure_edits
  have G_tidy := ok_tidy (Pr := l.prog) (wo := w) (base := base) (mg := mg) F_tidy g_sure_edits k_sure_edits b_sure_edits G_sure_edits g_goes_on k_goes_on b_goes_on G_goes_on g_plus k_plus b_plus G_plus
  have G_over__any := ok_over__any (Pr := l.prog) (wo := w) (base := base) (mg := mg) F_over__any g_sure_edits k_sure_edits b_sure_edits G_sure_edits
  have G_part__any := ok_part__any (Pr := l.prog) (wo := w) (base := base) (mg := mg) F_part__any g_sure_edits k_sure_edits b_sure_edits G_sure_edits g_sure_stretch k_sure_stretch b_sure_stretch G_sure_stretch
  have G_after__any := ok_after__any (Pr := l.prog) (wo := w) (base := base) (mg := mg) F_after__any g_sure_edits k_sure_edits b_sure_edits G_sure_edits
  have G_parted__any := ok_parted__any (Pr := l.prog) (wo := w) (base := base) (mg := mg) F_parted__any g_sure_edits k_sure_edits b_sure_edits G_sure_edits
  have G_stretches__any := ok_stretches__any (Pr := l.prog) (wo := w) (base := base) (mg := mg) F_stretches__any g_sure_edits k_sure_edits b_sure_edits G_sure_edits g_sure_stretch k_sure_stretch b_sure_stretch G_sure_stretch
  have G__law_deed := ok__law_deed (Pr := l.prog) (wo := w) (base := base) (mg := mg) F__law_deed g_total__any k_total__any b_total__any G_total__any g_mapped__any k_mapped__any b_mapped__any G_mapped__any g_part__any k_part__any b_part__any G_part__any g_stretches__any k_stretches__any b_stretches__any G_stretches__any g_over__any k_over__any b_over__any G_over__any g_after__any k_after__any b_after__any G_after__any g_parted__any k_parted__any b_parted__any G_parted__any g_tidy__any k_tidy__any b_tidy__any G_tidy__any
  have G__law_stretch_kind := ok__law_stretch_kind (Pr := l.prog) (wo := w) (base := base) (mg := mg) F__law_stretch_kind T_ScrollError T_NoMoment T_NoEdits p_NoEdits_NoMoment p_NoEdits_ScrollError p_NoMoment_NoMoment p_NoMoment_ScrollError g_part__any k_part__any b_part__any G_part__any g_stretches__any k_stretches__any b_stretches__any G_stretches__any bI_int bI_isinstance
  have G__law_kind := ok__law_kind (Pr := l.prog) (wo := w) (base := base) (mg := mg) F__law_kind T_ScrollError T_NoEdits T_NoMoment p_NoEdits_NoEdits p_NoEdits_NoMoment p_NoEdits_ScrollError p_NoMoment_NoEdits p_NoMoment_NoMoment p_NoMoment_ScrollError g__law_deed k__law_deed b__law_deed G__law_deed bI_isinstance bI_ValueError
  have G_law := ok_law (Pr := l.prog) (wo := w) (base := base) (mg := mg) F_law g__law_edits k__law_edits b__law_edits G__law_edits g__law_amount k__law_amount b__law_amount G__law_amount g__law_plus k__law_plus b__law_plus G__law_plus g__law_cell_at k__law_cell_at b__law_cell_at G__law_cell_at g_tidy k_tidy b_tidy G_tidy g_total k_total b_total G_total g__law_digit k__law_digit b__law_digit G__law_digit g__law_bad_edits k__law_bad_edits b__law_bad_edits G__law_bad_edits g__law_kind k__law_kind b__law_kind G__law_kind g_is_edits k_is_edits b_is_edits G_is_edits g__law_stretch_kind k__law_stretch_kind b__law_stretch_kind G__law_stretch_kind bI_range
  exact G_law.imp fun vs H Q E h => top_of law_ok h
end A
open PySem PySem.W PyProof.Rows
set_option maxRecDepth 100000 in
set_option maxHeartbeats 0 in
theorem PySem.Challenge.cw_lanescroll_k12_what_is_no_edit_holds : PySem.Challenge.rw_lanescroll_k12_what_is_no_edit.Holds := by
  w_on; o_law; k_head; (case hw => w_witness2)
  k_fill
  refine Y.walk_top (l := PySem.Challenge.rw_lanescroll_k12_what_is_no_edit) (k := 10) (x := "_law_script") rfl rfl ⟨rfl, by decide, by decide⟩ (fun w h Y => PySem.W.kIn_of Y) ?F
  case F =>
    intro w mg fa h KX G hmg
    refine' A.all_mk KX G hmg ?a_divisor ?l_divisor ?c_divisor ?k_divisor ?a_is_number ?l_is_number ?c_is_number ?k_is_number ?a_fraction ?l_fraction ?c_fraction ?k_fraction ?lT_fraction ?a_is_fraction ?l_is_fraction ?c_is_fraction ?k_is_fraction ?a_is_moment ?l_is_moment ?c_is_moment ?k_is_moment ?a_plus ?l_plus ?c_plus ?k_plus ?a_times ?l_times ?c_times ?k_times ?a_less ?l_less ?c_less ?k_less ?a_is_edit ?l_is_edit ?c_is_edit ?k_is_edit ?a_is_edits ?l_is_edits ?c_is_edits ?k_is_edits ?a_sure_edits ?l_sure_edits ?c_sure_edits ?k_sure_edits ?a_sure_moment ?l_sure_moment ?c_sure_moment ?k_sure_moment ?a_sure_stretch ?l_sure_stretch ?c_sure_stretch ?k_sure_stretch ?a_led_by ?l_led_by ?c_led_by ?k_led_by ?a_total ?l_total ?c_total ?k_total ?a_mapped ?l_mapped ?c_mapped ?k_mapped ?a_goes_on ?l_goes_on ?c_goes_on ?k_goes_on ?a_tidy ?l_tidy ?c_tidy ?k_tidy ?a_over ?l_over ?c_over ?k_over ?a_part ?l_part ?c_part ?k_part ?a_after ?l_after ?c_after ?k_after ?a_parted ?l_parted ?c_parted ?k_parted ?a_stretches ?l_stretches ?c_stretches ?k_stretches ?a__law_cell_at ?l__law_cell_at ?c__law_cell_at ?k__law_cell_at ?a__law_digit ?l__law_digit ?c__law_digit ?k__law_digit ?a__law_shared ?l__law_shared ?c__law_shared ?k__law_shared ?a__law_lowest ?l__law_lowest ?c__law_lowest ?k__law_lowest ?a__law_plus ?l__law_plus ?c__law_plus ?k__law_plus ?a__law_times ?l__law_times ?c__law_times ?k__law_times ?a__law_amount ?l__law_amount ?c__law_amount ?k__law_amount ?a__law_edit ?l__law_edit ?c__law_edit ?k__law_edit ?a__law_edits ?l__law_edits ?c__law_edits ?k__law_edits ?a__law_odd_edit ?l__law_odd_edit ?c__law_odd_edit ?k__law_odd_edit ?a__law_bad_edits ?l__law_bad_edits ?c__law_bad_edits ?k__law_bad_edits ?a__law_deed ?l__law_deed ?c__law_deed ?k__law_deed ?a__law_kind ?l__law_kind ?c__law_kind ?k__law_kind ?a__law_stretch_kind ?l__law_stretch_kind ?c__law_stretch_kind ?k__law_stretch_kind ?a_law ?l_law ?c_law ?k_law ?xca_NoFraction ?xchg_NoFraction ?xchk_NoFraction ?xchs_NoFraction ?xchd_NoFraction ?xcha_NoFraction ?xchm_NoFraction ?xcty_NoFraction ?xckp_NoFraction ?xcve_NoFraction ?xcis_NoFraction ?xcself_NoFraction ?xcex_NoFraction ?xca_NoEdits ?xchg_NoEdits ?xchk_NoEdits ?xchs_NoEdits ?xchd_NoEdits ?xcha_NoEdits ?xchm_NoEdits ?xcty_NoEdits ?xckp_NoEdits ?xcve_NoEdits ?xcis_NoEdits ?xcself_NoEdits ?xcex_NoEdits ?xca_NoMoment ?xchg_NoMoment ?xchk_NoMoment ?xchs_NoMoment ?xchd_NoMoment ?xcha_NoMoment ?xchm_NoMoment ?xcty_NoMoment ?xckp_NoMoment ?xcve_NoMoment ?xcis_NoMoment ?xcself_NoMoment ?xcex_NoMoment ?xca_ScrollError ?xchg_ScrollError ?xchk_ScrollError ?xchs_ScrollError ?xchd_ScrollError ?xcha_ScrollError ?xchm_ScrollError ?xcty_ScrollError ?xckp_ScrollError ?xcve_ScrollError ?xcis_ScrollError ?xcself_ScrollError ?xcex_ScrollError ?cg_NOUGHT ?cl_NOUGHT ?p_NoEdits_NoEdits ?p_NoEdits_NoMoment ?p_NoEdits_ScrollError ?p_NoMoment_NoEdits ?p_NoMoment_NoMoment ?p_NoMoment_ScrollError ?xhn ?xht ?z_abs ?z_isinstance ?z_int ?z_bool ?z_tuple ?z_len ?z_list ?z_all ?z_range ?z_dict ?z_ValueError
    (case a_divisor => k_is)
    (case l_divisor => k_is)
    (case c_divisor => k_is)
    (case k_divisor => k_is)
    (case a_is_number => k_is)
    (case l_is_number => k_is)
    (case c_is_number => k_is)
    (case k_is_number => k_is)
    (case a_fraction => k_is)
    (case l_fraction => k_is)
    (case c_fraction => k_is)
    (case k_fraction => k_is)
    (case lT_fraction => k_is)
    (case a_is_fraction => k_is)
    (case l_is_fraction => k_is)
    (case c_is_fraction => k_is)
    (case k_is_fraction => k_is)
    (case a_is_moment => k_is)
    (case l_is_moment => k_is)
    (case c_is_moment => k_is)
    (case k_is_moment => k_is)
    (case a_plus => k_is)
    (case l_plus => k_is)
    (case c_plus => k_is)
    (case k_plus => k_is)
    (case a_times => k_is)
    (case l_times => k_is)
    (case c_times => k_is)
    (case k_times => k_is)
    (case a_less => k_is)
    (case l_less => k_is)
    (case c_less => k_is)
    (case k_less => k_is)
    (case a_is_edit => k_is)
    (case l_is_edit => k_is)
    (case c_is_edit => k_is)
    (case k_is_edit => k_is)
    (case a_is_edits => k_is)
    (case l_is_edits => k_is)
    (case c_is_edits => k_is)
    (case k_is_edits => k_is)
    (case a_sure_edits => k_is)
    (case l_sure_edits => k_is)
    (case c_sure_edits => k_is)
    (case k_sure_edits => k_is)
    (case a_sure_moment => k_is)
    (case l_sure_moment => k_is)
    (case c_sure_moment => k_is)
    (case k_sure_moment => k_is)
    (case a_sure_stretch => k_is)
    (case l_sure_stretch => k_is)
    (case c_sure_stretch => k_is)
    (case k_sure_stretch => k_is)
    (case a_led_by => k_is)
    (case l_led_by => k_is)
    (case c_led_by => k_is)
    (case k_led_by => k_is)
    (case a_total => k_is)
    (case l_total => k_is)
    (case c_total => k_is)
    (case k_total => k_is)
    (case a_mapped => k_is)
    (case l_mapped => k_is)
    (case c_mapped => k_is)
    (case k_mapped => k_is)
    (case a_goes_on => k_is)
    (case l_goes_on => k_is)
    (case c_goes_on => k_is)
    (case k_goes_on => k_is)
    (case a_tidy => k_is)
    (case l_tidy => k_is)
    (case c_tidy => k_is)
    (case k_tidy => k_is)
    (case a_over => k_is)
    (case l_over => k_is)
    (case c_over => k_is)
    (case k_over => k_is)
    (case a_part => k_is)
    (case l_part => k_is)
    (case c_part => k_is)
    (case k_part => k_is)
    (case a_after => k_is)
    (case l_after => k_is)
    (case c_after => k_is)
    (case k_after => k_is)
    (case a_parted => k_is)
    (case l_parted => k_is)
    (case c_parted => k_is)
    (case k_parted => k_is)
    (case a_stretches => k_is)
    (case l_stretches => k_is)
    (case c_stretches => k_is)
    (case k_stretches => k_is)
    (case a__law_cell_at => k_is)
    (case l__law_cell_at => k_is)
    (case c__law_cell_at => k_is)
    (case k__law_cell_at => k_is)
    (case a__law_digit => k_is)
    (case l__law_digit => k_is)
    (case c__law_digit => k_is)
    (case k__law_digit => k_is)
    (case a__law_shared => k_is)
    (case l__law_shared => k_is)
    (case c__law_shared => k_is)
    (case k__law_shared => k_is)
    (case a__law_lowest => k_is)
    (case l__law_lowest => k_is)
    (case c__law_lowest => k_is)
    (case k__law_lowest => k_is)
    (case a__law_plus => k_is)
    (case l__law_plus => k_is)
    (case c__law_plus => k_is)
    (case k__law_plus => k_is)
    (case a__law_times => k_is)
    (case l__law_times => k_is)
    (case c__law_times => k_is)
    (case k__law_times => k_is)
    (case a__law_amount => k_is)
    (case l__law_amount => k_is)
    (case c__law_amount => k_is)
    (case k__law_amount => k_is)
    (case a__law_edit => k_is)
    (case l__law_edit => k_is)
    (case c__law_edit => k_is)
    (case k__law_edit => k_is)
    (case a__law_edits => k_is)
    (case l__law_edits => k_is)
    (case c__law_edits => k_is)
    (case k__law_edits => k_is)
    (case a__law_odd_edit => k_is)
    (case l__law_odd_edit => k_is)
    (case c__law_odd_edit => k_is)
    (case k__law_odd_edit => k_is)
    (case a__law_bad_edits => k_is)
    (case l__law_bad_edits => k_is)
    (case c__law_bad_edits => k_is)
    (case k__law_bad_edits => k_is)
    (case a__law_deed => k_is)
    (case l__law_deed => k_is)
    (case c__law_deed => k_is)
    (case k__law_deed => k_is)
    (case a__law_kind => k_is)
    (case l__law_kind => k_is)
    (case c__law_kind => k_is)
    (case k__law_kind => k_is)
    (case a__law_stretch_kind => k_is)
    (case l__law_stretch_kind => k_is)
    (case c__law_stretch_kind => k_is)
    (case k__law_stretch_kind => k_is)
    (case a_law => k_is)
    (case l_law => k_is)
    (case c_law => k_is)
    (case k_law => k_is)
    (case xca_NoFraction => k_is)
    (case xchg_NoFraction => k_is)
    (case xchk_NoFraction => k_is)
    (case xchs_NoFraction => k_is)
    (case xchd_NoFraction => k_is)
    (case xcha_NoFraction => k_is)
    (case xchm_NoFraction => k_is)
    (case xcty_NoFraction => k_is)
    (case xckp_NoFraction => k_is)
    (case xcve_NoFraction => k_is)
    (case xcis_NoFraction => k_is)
    (case xcself_NoFraction => k_is)
    (case xcex_NoFraction => k_exc)
    (case xca_NoEdits => k_is)
    (case xchg_NoEdits => k_is)
    (case xchk_NoEdits => k_is)
    (case xchs_NoEdits => k_is)
    (case xchd_NoEdits => k_is)
    (case xcha_NoEdits => k_is)
    (case xchm_NoEdits => k_is)
    (case xcty_NoEdits => k_is)
    (case xckp_NoEdits => k_is)
    (case xcve_NoEdits => k_is)
    (case xcis_NoEdits => k_is)
    (case xcself_NoEdits => k_is)
    (case xcex_NoEdits => k_exc)
    (case xca_NoMoment => k_is)
    (case xchg_NoMoment => k_is)
    (case xchk_NoMoment => k_is)
    (case xchs_NoMoment => k_is)
    (case xchd_NoMoment => k_is)
    (case xcha_NoMoment => k_is)
    (case xchm_NoMoment => k_is)
    (case xcty_NoMoment => k_is)
    (case xckp_NoMoment => k_is)
    (case xcve_NoMoment => k_is)
    (case xcis_NoMoment => k_is)
    (case xcself_NoMoment => k_is)
    (case xcex_NoMoment => k_exc)
    (case xca_ScrollError => k_is)
    (case xchg_ScrollError => k_is)
    (case xchk_ScrollError => k_is)
    (case xchs_ScrollError => k_is)
    (case xchd_ScrollError => k_is)
    (case xcha_ScrollError => k_is)
    (case xchm_ScrollError => k_is)
    (case xcty_ScrollError => k_is)
    (case xckp_ScrollError => k_is)
    (case xcve_ScrollError => k_is)
    (case xcis_ScrollError => k_is)
    (case xcself_ScrollError => k_is)
    (case xcex_ScrollError => k_exc)
    (case cg_NOUGHT => k_is)
    (case cl_NOUGHT => k_is)
    (case p_NoEdits_NoEdits => k_is)
    (case p_NoEdits_NoMoment => k_is)
    (case p_NoEdits_ScrollError => k_is)
    (case p_NoMoment_NoEdits => k_is)
    (case p_NoMoment_NoMoment => k_is)
    (case p_NoMoment_ScrollError => k_is)
    (case xhn => k_is)
    (case xht => k_is)
    (case z_abs => k_is)
    (case z_isinstance => k_is)
    (case z_int => k_is)
    (case z_bool => k_is)
    (case z_tuple => k_is)
    (case z_len => k_is)
    (case z_list => k_is)
    (case z_all => k_is)
    (case z_range => k_is)
    (case z_dict => k_is)
    (case z_ValueError => k_is)
