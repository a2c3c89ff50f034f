import PyProof.Rows.All
import Wide.All
import OpenK.AllK
import Wide.FinOn
import HandS.ForMost
import HandS.Evl
import HandS.IsInst
import HandS.Flow
import HandS.Defaults
import HandS.Wide
import HandS.WideMore
import HandS.Style
import HandS.ForExc
import HandS.TryOnly
import HandS.CallSlots
import HandS.ExcIs
import HandS.Walk
import HandS.Iter
import HandS.More
import HandS.TryMany
import HandS.ClsMeth
import HandS.TupAny
import HandS.SortKw
import HandS.WideBits
import HandS.Deep
import HandS.FStr
import KE.KCallOwn
import PyProof.Rows.FactsN_divmod
import PySem.Challenge.RW_lanescroll_k35_boxes_in_any_bytes
set_option Elab.async false
set_option linter.all false
set_option maxRecDepth 100000
set_option maxHeartbeats 2000000
namespace Y
open PySem PySem.Spec PyProof.Rows
open L2

/-- data: what a value stands for, through the heap -/
inductive D where
  | non | bl (b : Bool) | int (i : Int) | str (x : Str)
  | lst (ds : List D) | tup (ds : List D) | dic (kvs : List (Key × D))
  | obj (nm : Str) (fs : List (Str × D))

/-- a class of the text: its name, its address; what isinstance asks -/
structure KC (K : PySem.W.Frag) (nm : Str) (C : Addr) : Prop where
  a : PySem.W.nsIn K mainGlobals nm = some (some (.ref C))
  c : Cls K C
  ha : PySem.W.findIn K (.ref C) "__class__" = some (some (.builtin "object.__class__"))
  hn : PySem.W.specialIn K (.builtin "object.__class__") "__get__" = some (some (.builtin "getset_descriptor.__get__"))
  ht : PySem.W.takesIn K (.builtin "object.__class__") = some true
  hm : PySem.W.mroIn K C (.type "object") = some true
  bt : ∀ t ∈ ["bool", "int", "str", "list", "tuple", "dict"], PySem.W.subIn K (.ref C) (.type t) = some false

abbrev Ex (H H' : Hp) : Prop := ∀ a o, H a = some o → H' a = some o
theorem Ex.refl (H : Hp) : Ex H H := fun _ _ h => h
theorem Ex.trans {H H1 H2 : Hp} (a : Ex H H1) (b : Ex H1 H2) : Ex H H2 := fun x o h => b x o (a x o h)
theorem Ex.new {H : Hp} {p : Addr} {o : HO} (h : H p = none) : Ex H (upd H p o) := fun a u e => by
  rw [upd_ne (ne_of_none e h)]
  exact e
theorem Ex.upd {B H : Hp} {p : Addr} {o : HO} (e : Ex B H) (h : B p = none) : Ex B (upd H p o) := fun a u ha => by
  rw [upd_ne (ne_of_none ha h)]
  exact e a u ha
theorem Ex.both {B H : Hp} {p : Addr} {o : HO} (e : Ex B H) : Ex (L2.upd B p o) (L2.upd H p o) := fun a u ha => by
  by_cases q : a = p
  · subst q; rw [upd_same] at ha; cases ha; exact upd_same
  · rw [upd_ne q] at ha; rw [upd_ne q]; exact e a u ha
theorem Ex.none {H H' : Hp} {p : Addr} (e : Ex H H') (h : H' p = none) : H p = none := by
  cases h1 : H p with
  | none => rfl
  | some o => rw [e p o h1] at h; cases h
theorem Ex.rd {H H' : Hp} {a : Addr} {u : HO} (e : Ex H H') (h : Rd H a u) : Rd H' a u := by
  rcases h with h | ⟨o, h⟩
  · exact Or.inl (e a _ h)
  · exact Or.inr ⟨o, e a _ h⟩
theorem Ex.l {K : PySem.W.Frag} {H H' : Hp} {a : Addr} {xs : List V} (e : Ex H H') (h : SqL K H a xs) : SqL K H' a xs := by
  rcases h with h | h
  · exact Or.inl (e.rd h)
  · exact Or.inr h
theorem Ex.t {K : PySem.W.Frag} {H H' : Hp} {a : Addr} {xs : List V} (e : Ex H H') (h : SqT K H a xs) : SqT K H' a xs := by
  rcases h with h | h
  · exact Or.inl (e.rd h)
  · exact Or.inr h

mutual
/-- v stands for d -/
inductive Rep (K : PySem.W.Frag) (B : Hp) : V → D → Prop where
  | non : Rep K B .non .non
  | bl (b : Bool) : Rep K B (.bl b) (.bl b)
  | int (i : Int) : Rep K B (.int i) (.int i)
  | str (x : Str) : Rep K B (.str x) (.str x)
  | lst {p : Addr} {xs : List V} {ds : List D} (h : SqL K B p xs) (r : RepL K B xs ds) : Rep K B (.ref p) (.lst ds)
  | tup {p : Addr} {xs : List V} {ds : List D} (h : SqT K B p xs) (r : RepL K B xs ds) : Rep K B (.ref p) (.tup ds)
  | dic {p : Addr} {kvs : List (Key × V)} {ds : List (Key × D)} (h : B p = some (.dK kvs)) (r : RepK K B kvs ds) : Rep K B (.ref p) (.dic ds)
  | obj {p C dx : Addr} {nm : Str} {fs : List (Str × V)} {ds : List (Str × D)} (h : B p = some (.ins C dx fs)) (k : KC K nm C) (r : RepF K B fs ds) : Rep K B (.ref p) (.obj nm ds)
inductive RepL (K : PySem.W.Frag) (B : Hp) : List V → List D → Prop where
  | nil : RepL K B [] []
  | cons {v : V} {d : D} {vs : List V} {ds : List D} (h : Rep K B v d) (t : RepL K B vs ds) : RepL K B (v :: vs) (d :: ds)
inductive RepK (K : PySem.W.Frag) (B : Hp) : List (Key × V) → List (Key × D) → Prop where
  | nil : RepK K B [] []
  | cons {k : Key} {v : V} {d : D} {vs : List (Key × V)} {ds : List (Key × D)} (h : Rep K B v d) (t : RepK K B vs ds) : RepK K B ((k, v) :: vs) ((k, d) :: ds)
inductive RepF (K : PySem.W.Frag) (B : Hp) : List (Str × V) → List (Str × D) → Prop where
  | nil : RepF K B [] []
  | cons {k : Str} {v : V} {d : D} {vs : List (Str × V)} {ds : List (Str × D)} (h : Rep K B v d) (t : RepF K B vs ds) : RepF K B ((k, v) :: vs) ((k, d) :: ds)
end
section
variable {K : PySem.W.Frag} {B B' H : Hp}
mutual
theorem Rep.mono (e : Ex B B') : ∀ {v : V} {d : D}, Rep K B v d → Rep K B' v d
  | _, _, .non => .non
  | _, _, .bl b => .bl b
  | _, _, .int i => .int i
  | _, _, .str x => .str x
  | _, _, .lst h r => .lst (e.l h) (RepL.mono e r)
  | _, _, .tup h r => .tup (e.t h) (RepL.mono e r)
  | _, _, .dic h r => .dic (e _ _ h) (RepK.mono e r)
  | _, _, .obj h k r => .obj (e _ _ h) k (RepF.mono e r)
theorem RepL.mono (e : Ex B B') : ∀ {vs : List V} {ds : List D}, RepL K B vs ds → RepL K B' vs ds
  | _, _, .nil => .nil
  | _, _, .cons h t => .cons (Rep.mono e h) (RepL.mono e t)
theorem RepK.mono (e : Ex B B') : ∀ {vs : List (Key × V)} {ds : List (Key × D)}, RepK K B vs ds → RepK K B' vs ds
  | _, _, .nil => .nil
  | _, _, .cons h t => .cons (Rep.mono e h) (RepK.mono e t)
theorem RepF.mono (e : Ex B B') : ∀ {vs : List (Str × V)} {ds : List (Str × D)}, RepF K B vs ds → RepF K B' vs ds
  | _, _, .nil => .nil
  | _, _, .cons h t => .cons (Rep.mono e h) (RepF.mono e t)
end
theorem RepL.length : ∀ {vs : List V} {ds : List D}, RepL K B vs ds → vs.length = ds.length
  | _, _, .nil => rfl
  | _, _, .cons _ t => congrArg Nat.succ (RepL.length t)
theorem RepL.get : ∀ {vs : List V} {ds : List D} {i : Nat} {d : D}, RepL K B vs ds → ds[i]? = some d → ∃ v, vs[i]? = some v ∧ Rep K B v d
  | _, _, _, _, .nil, e => by simp at e
  | _, _, 0, _, .cons r _, e => by simp at e; subst e; exact ⟨_, rfl, r⟩
  | _, _, i + 1, x, .cons _ t, e => by
    obtain ⟨u, h1, h2⟩ := RepL.get (i := i) (d := x) t (by simpa using e)
    exact ⟨u, by simpa using h1, h2⟩
theorem RepL.append : ∀ {vs ws : List V} {ds es : List D}, RepL K B vs ds → RepL K B ws es → RepL K B (vs ++ ws) (ds ++ es)
  | _, _, _, _, .nil, s => s
  | _, _, _, _, .cons r t, s => .cons r (RepL.append t s)
theorem RepL.at {vs : List V} {ds : List D} {i : Int} {d : D} (r : RepL K B vs ds) (h : atI ds i = some d) : ∃ v, atI vs i = some v ∧ Rep K B v d := by
  unfold atI at h ⊢
  rw [r.length]
  cases e : ixN ds.length i with
  | none => rw [e] at h; cases h
  | some j => rw [e] at h; exact r.get h
theorem RepL.ints : ∀ (ns : List Int), RepL K B (ns.map V.int) (ns.map D.int)
  | [] => .nil
  | n :: r => .cons (.int n) (RepL.ints r)
theorem RepL.of_ints : ∀ {vs : List V} {ns : List Int}, RepL K B vs (ns.map D.int) → vs = ns.map V.int
  | [], [], _ => rfl
  | _ :: _, [], r => nomatch r
  | [], _ :: _, r => nomatch r
  | v :: vs, n :: ns, r => by
    cases r with
    | cons h t =>
      cases h
      rw [RepL.of_ints t]
      rfl
end

/-- from (B, H), what is known and the heap, to (B', H'), writing at most at W -/
structure Stp (W : List Addr) (B H B' H' : Hp) : Prop where
  ex : Ex B B'
  ok : Ex B' H'
  fr : ∀ a o, a ∉ W → H a = some o → H' a = some o
  al : ∀ a o, H a = some o → ∃ o', H' a = some o'
  nw : ∀ a o, B a = none → H a = some o → B' a = none
section
variable {W W' : List Addr} {B H B' H' B1 H1 B2 H2 : Hp} {p : Addr} {o : HO}
theorem Stp.refl (w : Ex B H) : Stp W B H B H := ⟨Ex.refl B, w, fun _ _ _ h => h, fun _ o h => ⟨o, h⟩, fun _ _ h _ => h⟩
theorem Stp.trans (a : Stp W B H B1 H1) (b : Stp W B1 H1 B2 H2) : Stp W B H B2 H2 :=
  ⟨a.ex.trans b.ex, b.ok, fun x o hx h => b.fr x o hx (a.fr x o hx h), fun x o h => let ⟨o1, h1⟩ := a.al x o h; b.al x o1 h1, fun x o hb h => let ⟨o1, h1⟩ := a.al x o h; b.nw x o1 (a.nw x o hb h) h1⟩
theorem Stp.w (a : Stp W B H B1 H1) (h : ∀ x, x ∈ W → x ∈ W') : Stp W' B H B1 H1 := ⟨a.ex, a.ok, fun x o hx e => a.fr x o (fun z => hx (h x z)) e, a.al, a.nw⟩
theorem Stp.w0 (a : Stp [] B H B1 H1) : Stp W B H B1 H1 := a.w fun _ h => nomatch h
/-- a new object that stays -/
theorem Stp.new (w : Ex B H) (h : H p = none) : Stp W B H (upd B p o) (upd H p o) :=
  ⟨Ex.new (w.none h), w.both, fun a u _ e => Ex.new h a u e, fun a u e => ⟨u, Ex.new h a u e⟩, fun a u hb e => by rw [upd_ne (ne_of_none e h)]; exact hb⟩
/-- a new object that may change -/
theorem Stp.newM (w : Ex B H) (h : H p = none) : Stp W B H B (upd H p o) :=
  ⟨Ex.refl B, w.upd (w.none h), fun a u _ e => Ex.new h a u e, fun a u e => ⟨u, Ex.new h a u e⟩, fun a u hb _ => hb⟩
/-- a changed object of W -/
theorem Stp.set (w : Ex B H) (hp : p ∈ W) (hb : B p = none) {u : HO} (hu : H p = some u) : Stp W B H B (upd H p o) :=
  ⟨Ex.refl B, w.upd hb, fun a u hx e => by rw [upd_ne (fun z => hx (by rw [z]; exact hp))]; exact e, fun a u e => by
    by_cases q : a = p
    · subst q; exact ⟨o, upd_same⟩
    · exact ⟨u, by rw [upd_ne q]; exact e⟩, fun _ _ h _ => h⟩
/-- an object of our own, made behind the entry, changed -/
theorem Stp.own (a : Stp W B H B1 H1) (h0 : H p = none) (hb : B1 p = none) (h : ∃ u, H1 p = some u) : Stp W B H B1 (upd H1 p o) :=
  ⟨a.ex, a.ok.upd hb, fun x u hx e => by rw [upd_ne (ne_of_none e h0)]; exact a.fr x u hx e, fun x u e => by
    rw [upd_ne (ne_of_none e h0)]; exact a.al x u e, a.nw⟩
/-- an object of our own turns into one that stays -/
theorem Stp.keep (w : Ex B H) (a : Stp W B H B1 H1) (h0 : H p = none) (hb : B1 p = none) (h : H1 p = some o) : Stp W B H (upd B1 p o) H1 :=
  ⟨fun x u e => by rw [upd_ne (ne_of_none e (w.none h0))]; exact a.ex x u e, fun x u e => by
    by_cases q : x = p
    · subst q; rw [upd_same] at e; cases e; exact h
    · rw [upd_ne q] at e; exact a.ok x u e, a.fr, a.al, fun x u hb e => by rw [upd_ne (ne_of_none e h0)]; exact a.nw x u hb e⟩
end
/-! ### mirrors -/
/-- an error that is raised: the class's name, what it is told -/
structure Err where
  cls : Str
  args : List D := []
/-- what a mirror gives: a value, an error, or a place that the model does not serve -/
inductive Res (α : Type) where
  | ok (a : α) | err (e : Err) | stuck
def Res.bind {α β : Type} (m : Res α) (k : α → Res β) : Res β := match m with | .ok a => k a | .err e => .err e | .stuck => .stuck
/-- an error that nobody waits for -/
def Res.noErr {α : Type} (m : Res α) : Res α := match m with | .ok a => .ok a | _ => .stuck
instance : Monad Res where
  pure := Res.ok
  bind := Res.bind
def Post0 {α : Type} (m : Res α) (P : α → Prop) (R : Err → Prop) : Prop := match m with | .ok a => P a | .err e => R e | .stuck => False
/-- what the mirror gives is wished for: a structure, so that nothing looks into it -/
structure Post {α : Type} (m : Res α) (P : α → Prop) (R : Err → Prop) : Prop where
  h0 : Post0 m P R
section
variable {α β : Type} {m : Res α} {P P' : α → Prop} {R R' : Err → Prop} {a : α}
theorem Post.mono (h : Post m P R) (hp : ∀ a, P a → P' a) (hr : ∀ e, R e → R' e) : Post m P' R' := by
  obtain ⟨h⟩ := h
  refine ⟨?_⟩
  cases m with
  | ok a => exact hp a h
  | err e => exact hr e h
  | stuck => exact h
theorem Post.bind {k : α → Res β} {P : β → Prop} (h : Post (m.bind k) P R) : Post m (fun a => Post (k a) P R) R := by
  obtain ⟨h⟩ := h
  refine ⟨?_⟩
  cases m
  · exact ⟨h⟩
  · exact h
  · exact h
theorem Post.noErr (h : Post m.noErr P R) : Post m P (fun _ => False) := by
  obtain ⟨h⟩ := h
  refine ⟨?_⟩
  cases m with
  | ok a => exact h
  | err e => exact h
  | stuck => exact h
theorem Post.ok (h : Post (.ok a) P R) : P a := h.h0
theorem Post.err {e : Err} (h : Post (.err e : Res α) P R) : R e := h.h0
theorem Post.elim {C : Prop} (h : Post (.stuck : Res α) P R) : C := False.elim h.h0
theorem Post.mk' (h : P a) : Post (.ok a) P R := ⟨h⟩
theorem Post.iteT {c : Bool} {m m' : Res α} (h : Post (if c = true then m else m') P R) (hc : c = true) : Post m P R := by
  rw [if_pos hc] at h; exact h
theorem Post.iteF {c : Bool} {m m' : Res α} (h : Post (if c = true then m else m') P R) (hc : c = false) : Post m' P R := by
  rw [hc, if_neg Bool.false_ne_true] at h; exact h
theorem Post.is {m' : Res α} (h : Post m P R) (e : m = m') : Post m' P R := e ▸ h
end
/-- an item -/
def ixR {α : Type} (l : List α) (i : Int) : Res α := match atI l i with | some x => .ok x | none => .stuck
theorem Post.ix {α β : Type} {l : List α} {i : Int} {k : α → Res β} {P : β → Prop} {R : Err → Prop} (h : Post ((ixR l i).bind k) P R) : ∃ x, atI l i = some x ∧ Post (k x) P R := by
  unfold ixR at h
  cases e : atI l i with
  | none => rw [e] at h; exact h.elim
  | some x => rw [e] at h; exact ⟨x, rfl, h⟩
/-- where c holds -/
def guardR {α : Type} (c : Prop) [Decidable c] (m : Res α) : Res α := if c then m else .stuck
theorem Post.guard {α : Type} {c : Prop} [Decidable c] {m : Res α} {P : α → Prop} {R : Err → Prop} (h : Post (guardR c m) P R) : c ∧ Post m P R := by
  unfold guardR at h
  by_cases e : c
  · rw [if_pos e] at h; exact ⟨e, h⟩
  · rw [if_neg e] at h; exact h.elim
instance (i j : Int) : Decidable (CMulW i j) := by unfold CMulW; infer_instance
instance (i j : Int) : Decidable (CDivW i j) := by unfold CDivW; infer_instance
/-- a loop's turn: on, or a value that is returned, or out -/
inductive Fl (S R : Type) where
  | nx (s : S) | rt (r : R) | bk (s : S)
def forR {α S R : Type} : List α → S → (α → S → Res (Fl S R)) → Res (Fl S R)
  | [], s, _ => .ok (.nx s)
  | x :: xs, s, f => (f x s).bind fun r => match r with | .nx s' => forR xs s' f | r => .ok r
theorem Post.forS {α S R : Type} {l : List α} {i : Nat} {s : S} {f : α → S → Res (Fl S R)} {P : Fl S R → Prop} {E : Err → Prop} {x : α} (h : Post (forR (l.drop i) s f) P E) (hx : l[i]? = some x) :
    Post (f x s) (fun r => match r with | .nx s' => Post (forR (l.drop (i + 1)) s' f) P E | .rt v => P (.rt v) | .bk s' => P (.bk s')) E := by
  obtain ⟨hi, e⟩ := List.getElem?_eq_some_iff.mp hx
  rw [List.drop_eq_getElem_cons hi, e] at h
  exact (Post.bind h).mono (fun r q => by
    cases r
    · exact q
    · exact q.ok
    · exact q.ok) fun _ q => q
theorem Post.forN {α S R : Type} {l : List α} {i : Nat} {s : S} {f : α → S → Res (Fl S R)} {P : Fl S R → Prop} {E : Err → Prop} (h : Post (forR (l.drop i) s f) P E) (hi : l.length ≤ i) : P (.nx s) := by
  rw [List.drop_eq_nil_of_le hi] at h
  exact h.ok

/-! ### what stands for data -/
class Enc (α : Type) where
  enc : α → D
open Enc (enc)
structure Tp1 (α : Type) where
  a : α
structure Tp2 (α β : Type) where
  a : α
  b : β
structure Tp3 (α β γ : Type) where
  a : α
  b : β
  c : γ
structure Tp4 (α β γ δ : Type) where
  a : α
  b : β
  c : γ
  d : δ
structure Tp5 (α β γ δ ε : Type) where
  a : α
  b : β
  c : γ
  d : δ
  e : ε
instance : Enc Int := ⟨.int⟩
instance : Enc Bool := ⟨.bl⟩
instance : Enc Str := ⟨.str⟩
instance : Enc Unit := ⟨fun _ => .non⟩
instance : Enc D := ⟨id⟩
instance {α : Type} [Enc α] : Enc (List α) := ⟨fun l => .lst (l.map enc)⟩
instance {α : Type} [Enc α] : Enc (Option α) := ⟨fun o => match o with | some x => enc x | none => .non⟩
instance {α : Type} [Enc α] : Enc (Tp1 α) := ⟨fun t => .tup [enc t.a]⟩
instance {α β : Type} [Enc α] [Enc β] : Enc (Tp2 α β) := ⟨fun t => .tup [enc t.a, enc t.b]⟩
instance {α β γ : Type} [Enc α] [Enc β] [Enc γ] : Enc (Tp3 α β γ) := ⟨fun t => .tup [enc t.a, enc t.b, enc t.c]⟩
instance {α β γ δ : Type} [Enc α] [Enc β] [Enc γ] [Enc δ] : Enc (Tp4 α β γ δ) := ⟨fun t => .tup [enc t.a, enc t.b, enc t.c, enc t.d]⟩
instance {α β γ δ ε : Type} [Enc α] [Enc β] [Enc γ] [Enc δ] [Enc ε] : Enc (Tp5 α β γ δ ε) := ⟨fun t => .tup [enc t.a, enc t.b, enc t.c, enc t.d, enc t.e]⟩

/-- a list that may change: at p, outside of what is known for good -/
def Mu (K : PySem.W.Frag) (B H : Hp) (p : Addr) (ds : List D) : Prop := B p = none ∧ ∃ xs, H p = some (.lst xs) ∧ RepL K B xs ds
/-- a list that stands in the written part -/
def KL (K : PySem.W.Frag) (a : Addr) (xs : List V) : Prop := ∃ (o : Obj) (its : Array Value) (n : Nat), K.lookup a = some o ∧ o.cls = .type "list" ∧ o.dict = none ∧ o.data = .seq its n ∧ its.size ≤ sizeLine ∧ Vals xs its.toList
/-- a list that is read: at v now -/
def Bor (K : PySem.W.Frag) (B H : Hp) (W : List Addr) (v : V) (ds : List D) : Prop := ∃ p xs, v = .ref p ∧ ((Rd H p (.lst xs) ∧ p ∉ W) ∨ KL K p xs) ∧ RepL K B xs ds
/-- what a return hands on -/
def Ret (K : PySem.W.Frag) (W : List Addr) (B H : Hp) (d : D) (Q : VK) : Prop := ∀ v B' H', Stp W B H B' H' → Rep K B' v d → Q v H'
/-- .. where the list at p may have changed -/
def RetM (K : PySem.W.Frag) (p : Addr) (B H : Hp) (d : D) (ds : List D) (Q : VK) : Prop := ∀ v B' H', Stp [p] B H B' H' → Mu K B' H' p ds → Rep K B' v d → Q v H'
/-- .. that is raised -/
def Rai (mg : Str → Option Value) (W : List Addr) (B H : Hp) (e : Err) (E : XK) : Prop := ∀ C B' H', mg e.cls = some (.ref C) → Stp W B H B' H' → E (.ref C) none H'
section
variable {K : PySem.W.Frag} {B B' B1 H H' H1 : Hp} {W : List Addr} {p q : Addr} {ds es : List D} {xs : List V} {d : D} {v : V} {Q : VK} {mg : Str → Option Value} {E : XK}
theorem Mu.step (m : Mu K B H p ds) (s : Stp W B H B' H') (h : p ∉ W) : Mu K B' H' p ds := by
  obtain ⟨hb, xs, hp, r⟩ := m
  exact ⟨s.nw p _ hb hp, xs, s.fr p _ h hp, r.mono s.ex⟩
theorem Mu.new (w : Ex B H) (h : H p = none) (r : RepL K B xs ds) : Mu K B (upd H p (.lst xs)) p ds := ⟨w.none h, xs, upd_same, r⟩
theorem Mu.bor (m : Mu K B H p ds) (h : p ∉ W) : Bor K B H W (.ref p) ds := by
  obtain ⟨hb, xs, hp, r⟩ := m
  exact ⟨p, xs, rfl, .inl ⟨.inl hp, h⟩, r⟩
theorem Mu.ne (m : Mu K B H p ds) (h : H q = none) : p ≠ q := by
  obtain ⟨hb, xs, hp, r⟩ := m
  exact ne_of_none hp h
theorem Bor.step (m : Bor K B H W v ds) (s : Stp W B H B' H') : Bor K B' H' W v ds := by
  obtain ⟨p, xs, e, hp, r⟩ := m
  refine ⟨p, xs, e, ?_, r.mono s.ex⟩
  rcases hp with ⟨hp | ⟨o, hp⟩, hw⟩ | hp
  · exact .inl ⟨.inl (s.fr p _ hw hp), hw⟩
  · exact .inl ⟨.inr ⟨o, s.fr p _ hw hp⟩, hw⟩
  · exact .inr hp
theorem Bor.w {W' : List Addr} (m : Bor K B H W v ds) (h : ∀ x, x ∈ W' → x ∈ W) : Bor K B H W' v ds := by
  obtain ⟨p, xs, e, hp, r⟩ := m
  refine ⟨p, xs, e, ?_, r⟩
  rcases hp with ⟨hp, hw⟩ | hp
  · exact .inl ⟨hp, fun z => hw (h p z)⟩
  · exact .inr hp
theorem Bor.sq (m : Bor K B H W v ds) : ∃ p xs, v = .ref p ∧ SqL K H p xs ∧ RepL K B xs ds := by
  obtain ⟨p, xs, e, hp, r⟩ := m
  refine ⟨p, xs, e, ?_, r⟩
  rcases hp with ⟨hp, _⟩ | hp
  · exact .inl hp
  · exact .inr hp
theorem Rep.bor (w : Ex B H) (r : Rep K B v (.lst ds)) (h : ∀ x, x ∈ W → B x = none) : Bor K B H W v ds := by
  cases r with
  | @lst p xs _ hp r =>
    refine ⟨p, xs, rfl, ?_, r⟩
    rcases hp with hp | hp
    · refine .inl ⟨w.rd hp, fun z => ?_⟩
      have e := h p z
      rcases hp with hp | ⟨o, hp⟩
      · rw [hp] at e; cases e
      · rw [hp] at e; cases e
    · exact .inr hp
theorem Rep.bor0 (w : Ex B H) (r : Rep K B v (.lst ds)) : Bor K B H [] v ds := r.bor w (fun _ z => nomatch z)
theorem Rep.sq (w : Ex B H) (r : Rep K B v (.lst ds)) : ∃ p xs, v = .ref p ∧ SqL K H p xs ∧ RepL K B xs ds := by
  cases r with
  | @lst p xs _ hp r => exact ⟨p, xs, rfl, w.l hp, r⟩
theorem Rep.st (w : Ex B H) (r : Rep K B v (.tup ds)) : ∃ p xs, v = .ref p ∧ SqT K H p xs ∧ RepL K B xs ds := by
  cases r with
  | @tup p xs _ hp r => exact ⟨p, xs, rfl, w.t hp, r⟩
theorem Mu.sq (m : Mu K B H p ds) : ∃ xs, H p = some (.lst xs) ∧ SqL K H p xs ∧ RepL K B xs ds := by
  obtain ⟨hb, xs, hp, r⟩ := m
  exact ⟨xs, hp, SqL.of hp, r⟩
theorem Stp.mut (w : Ex B H) (m : Mu K B H p ds) (r : RepL K B xs es) : Stp [p] B H B (upd H p (.lst xs)) ∧ Mu K B (upd H p (.lst xs)) p es := by
  obtain ⟨hb, ys, hp, _⟩ := m
  exact ⟨Stp.set w (by simp) hb hp, hb, xs, upd_same, r⟩
end
/-- the built-in type of a thing -/
def tyD : D → String
  | .non => "NoneType" | .bl _ => "bool" | .int _ => "int" | .str _ => "str" | .lst _ => "list" | .tup _ => "tuple" | .dic _ => "dict" | .obj _ _ => "object"
def isObjD : D → Bool | .obj _ _ => true | _ => false
theorem Rep.ty {K : PySem.W.Frag} {B H : Hp} {v : V} {d : D} (w : Ex B H) (r : Rep K B v d) (hd : isObjD d = false) : TyX K H v (.type (tyD d)) := by
  cases r with
  | obj h k r => exact nomatch hd
  | non => exact .base .non
  | bl b => exact .base (.bl b)
  | int i => exact .base (.int i)
  | str x => exact .base (.str x)
  | lst h r =>
    rcases h with (h | ⟨o, h⟩) | ⟨o, its, n, h, hc, _⟩
    · exact .base (.lst (w _ _ h))
    · exact .base (.frz (w _ _ h))
    · exact .kList h hc
  | tup h r =>
    rcases h with (h | ⟨o, h⟩) | ⟨o, its, n, h, hc, _⟩
    · exact .base (.tup (w _ _ h))
    · exact .fTuple (w _ _ h)
    · exact .kTuple h hc
  | dic h r => exact .base (.dK (w _ _ h))
def isS (s t : String) : Bool := s == t || (s == "bool" && t == "int")
def isA (t : String) (d : D) : Bool := isS (tyD d) t
theorem kit_tab : ∀ s ∈ ["NoneType", "bool", "int", "str", "list", "tuple", "dict"], ∀ t ∈ ["bool", "int", "str", "list", "tuple", "dict"], kitB s t = some (isS s t) := by decide +kernel
theorem tyD_in (d : D) (hd : isObjD d = false) : tyD d ∈ ["NoneType", "bool", "int", "str", "list", "tuple", "dict"] := by
  cases d
  case obj => exact nomatch hd
  all_goals simp [tyD]
theorem isS_obj : ∀ t ∈ ["bool", "int", "str", "list", "tuple", "dict"], isS "object" t = false := by decide +kernel
theorem meta_tab : ∀ t ∈ ["bool", "int", "str", "list", "tuple", "dict"], PySem.W.kitMeta t = true := by decide +kernel
theorem KC.kit {K : PySem.W.Frag} {nm : Str} {C : Addr} (k : KC K nm C) {t : String} (ht : t ∈ ["bool", "int", "str", "list", "tuple", "dict"]) : PySem.W.kitOne K (.ref C) (.type t) = some false := by
  unfold PySem.W.kitOne
  rw [if_neg (by simp)]
  show (if PySem.W.kitMeta t = true then PySem.W.subIn K (.ref C) (.type t) else none) = some false
  rw [if_pos (meta_tab t ht)]
  exact k.bt t ht
theorem KC.tyx {K : PySem.W.Frag} {nm : Str} {C p dx : Addr} {H : Hp} {fs : List (Str × V)} (k : KC K nm C) (h : H p = some (.ins C dx fs)) : TyX K H (.ref p) (.ref C) := .base (.ins h k.c k.ha k.hn k.ht k.hm)
/-- isinstance(x, int | bool | str | list | tuple | dict) -/
theorem isi {K : PySem.W.Frag} {B H : Hp} {v : V} {d : D} {t : String} {Q : VK} (w : Ex B H) (r : Rep K B v d) (q : Q (.bl (isA t d)) H) (ht : t ∈ ["bool", "int", "str", "list", "tuple", "dict"] := by simp) : rIsi K [v, .ty t] H Q := by
  by_cases hd : isObjD d = true
  · cases r with
    | @obj p C dx nm fs ds h k r =>
      have e : isA t (.obj nm ds) = false := isS_obj t ht
      rw [e] at q
      exact ⟨_, .ty t, .ref C, .type t, false, rfl, .ty t, k.tyx (w _ _ h), k.kit ht, q⟩
    | _ => exact nomatch hd
  · have hd := Bool.eq_false_iff.mpr hd
    exact ⟨v, .ty t, _, .type t, isA t d, rfl, .ty t, r.ty w hd, kit_ty (kit_tab _ (tyD_in d hd) _ ht), q⟩
theorem boot_bool : bootBuiltins "bool" = some (.type "bool") := by decide +kernel
theorem boot_int : bootBuiltins "int" = some (.type "int") := by decide +kernel
theorem boot_str : bootBuiltins "str" = some (.type "str") := by decide +kernel
theorem boot_list : bootBuiltins "list" = some (.type "list") := by decide +kernel
theorem boot_tuple : bootBuiltins "tuple" = some (.type "tuple") := by decide +kernel
theorem boot_dict : bootBuiltins "dict" = some (.type "dict") := by decide +kernel

/-! ### readings, step by step -/
def NwL (xs : List V) (H : Hp) (Q : VK) : Prop := ∀ p, H p = none → Q (.ref p) (upd H p (.lst xs))
def NwT (xs : List V) (H : Hp) (Q : VK) : Prop := ∀ p, H p = none → Q (.ref p) (upd H p (.tup xs))
def NewL (xs : List V) (H : Hp) (Q : VK) : Prop := xs.length ≤ sizeLine ∧ NwL xs H Q
def NewT (xs : List V) (H : Hp) (Q : VK) : Prop := xs.length ≤ sizeLine ∧ NwT xs H Q
section
variable {K : PySem.W.Frag} {σ σ' : L2.St} {H : Hp} {Q : VK} {D' : Ends} {te ta tb tc : TE} {tt tt' : TT} {t u z : TS} {tl : TA} {v x y : V} {i j : Int} {n : Nat} {r r' : R2} {W : List Addr}
theorem h_seq (h : t { D' with nx := u D' } σ H) : tSeq t u D' σ H := h
theorem h_set (h : te σ H fun x H1 => u D' (σ.set n (some x)) H1) : tSeq (tAsg te (gName n)) u D' σ H := h
theorem h_set1 (h : te σ H fun x H1 => D'.nx (σ.set n (some x)) H1) : tAsg te (gName n) D' σ H := h
theorem h_nrm {T : L2.St → Hp → Prop} (h : T σ' H) (e : σ' = σ := by rfl) : T σ H := e ▸ h
theorem h_drop (h : te σ H fun _ H1 => D'.nx σ H1) : tDrop te D' σ H := h
theorem h_ret (h : te σ H D'.rt) : tRet te D' σ H := h
theorem h_if {c : TT} (h : c σ H fun b H1 => if b = true then t D' σ H1 else u D' σ H1) : tIfS c t u D' σ H := h
theorem h_next (h : D'.nx σ H) : tNext D' σ H := h
theorem h_nx {a c d : L2.St → Hp → Prop} {b : VK} (h : a σ H) : (Ends.mk a b c d).nx σ H := h
theorem h_var (e : σ[n]? = some (some v)) (h : Q v H) : tVar n σ H Q := ⟨v, e, h⟩
theorem h_c (h : Q v H) : tC v σ H Q := h
theorem h_op (h : ta σ H fun x H1 => tb σ H1 fun y H2 => r x y H2 Q) : tOp r ta tb σ H Q := h
theorem h_I0 {g : Int → Int → V} (h : Q (g i j) H) : rI0 g (.int i) (.int j) H Q := ⟨i, j, rfl, rfl, h⟩
theorem h_I {C : Int → Int → Prop} {g : Int → Int → V} (c : C i j) (h : Q (g i j) H) : rI C g (.int i) (.int j) H Q := ⟨i, j, rfl, rfl, c, h⟩
theorem h_un {f : V → Hp → VK → Prop} (h : ta σ H fun x H1 => f x H1 Q) : tUn f ta σ H Q := h
theorem h_U {g : Int → V} (h : Q (g i) H) : rU g (.int i) H Q := ⟨i, rfl, h⟩
theorem h_eq (s : scal x y = true) (h : Q (.bl (decide (x = y))) H) : rEq x y H Q := ⟨s, h⟩
theorem h_ne (s : scal x y = true) (h : Q (.bl (!decide (x = y))) H) : rNe x y H Q := ⟨s, h⟩
theorem dec_i : decide (V.int i = V.int j) = decide (i = j) := by simp
theorem dec_b {i j : Bool} : decide (V.bl i = V.bl j) = decide (i = j) := by simp
theorem dec_s {i j : Str} : decide (V.str i = V.str j) = decide (i = j) := by simp
theorem h_eqI (h : Q (.bl (decide (i = j))) H) : rEq (.int i) (.int j) H Q := ⟨rfl, by rw [dec_i]; exact h⟩
theorem h_neI (h : Q (.bl (!decide (i = j))) H) : rNe (.int i) (.int j) H Q := ⟨rfl, by rw [dec_i]; exact h⟩
theorem h_eqS {i j : Str} (h : Q (.bl (decide (i = j))) H) : rEq (.str i) (.str j) H Q := ⟨rfl, by rw [dec_s]; exact h⟩
theorem h_neS {i j : Str} (h : Q (.bl (!decide (i = j))) H) : rNe (.str i) (.str j) H Q := ⟨rfl, by rw [dec_s]; exact h⟩
theorem h_eqB {i j : Bool} (h : Q (.bl (decide (i = j))) H) : rEq (.bl i) (.bl j) H Q := ⟨rfl, by rw [dec_b]; exact h⟩
theorem h_neB {i j : Bool} (h : Q (.bl (!decide (i = j))) H) : rNe (.bl i) (.bl j) H Q := ⟨rfl, by rw [dec_b]; exact h⟩
theorem h_chain (h : ta σ H fun x H1 => tb σ H1 fun y H2 => r x y H2 fun z H3 => ∃ k, z = .bl k ∧ (if k = true then tc σ H3 fun w' H4 => r' y w' H4 Q else Q (.bl false) H3)) : tChain r r' ta tb tc σ H Q := h
theorem h_chk {k : Bool} {A : Prop} {w : V} {f : Bool → Prop} (hw : w = .bl k) (h : f k) : ∃ k, w = .bl k ∧ f k := ⟨k, hw, h⟩
theorem h_and (h : ta σ H fun x H1 => ∃ c, x = .bl c ∧ if c = true then tb σ H1 Q else Q (.bl false) H1) : tAndV ta tb σ H Q := h
theorem h_or (h : ta σ H fun x H1 => ∃ c, x = .bl c ∧ if c = true then Q (.bl true) H1 else tb σ H1 Q) : tOrV ta tb σ H Q := h
theorem h_not (h : ta σ H fun x H1 => ∃ c, x = .bl c ∧ Q (.bl (!c)) H1) : tNotV ta σ H Q := h
theorem h_tand {Q : Bool → Hp → Prop} (h : tt σ H fun c H1 => if c = true then tt' σ H1 Q else Q false H1) : tAnd tt tt' σ H Q := h
theorem h_tor {Q : Bool → Hp → Prop} (h : tt σ H fun c H1 => if c = true then Q true H1 else tt' σ H1 Q) : tOr tt tt' σ H Q := h
theorem h_tnot {Q : Bool → Hp → Prop} (h : tt σ H fun c H1 => Q (!c) H1) : tNot tt σ H Q := h
theorem h_test {Q : Bool → Hp → Prop} (h : te σ H fun x H' => ∃ k, x = .bl k ∧ Q k H') : tTest te σ H Q := h
theorem h_tB {Q : Bool → Hp → Prop} (h : te σ H fun x H' => ∃ k, x = .bl k ∧ Q k H') : tB te σ H Q := h
theorem h_bl {b : Bool} {f : Bool → Prop} (h : f b) : ∃ k, V.bl b = .bl k ∧ f k := ⟨b, rfl, h⟩
theorem h_iteT {A B : Prop} (h : A) : if true = true then A else B := by rw [if_pos rfl]; exact h
theorem h_iteF {A B : Prop} (h : B) : if false = true then A else B := by rw [if_neg Bool.false_ne_true]; exact h
theorem h_ite {b : Bool} {A B : Prop} (h1 : b = true → A) (h2 : b = false → B) : if b = true then A else B := by
  cases b
  · exact h_iteF (h2 rfl)
  · exact h_iteT (h1 rfl)
theorem h_ifE {c : TT} (h : c σ H fun b H1 => if b = true then ta σ H1 Q else tb σ H1 Q) : tIf c ta tb σ H Q := h
theorem h_nil {Q : List V → Hp → Prop} (h : Q [] H) : tNil σ H Q := h
theorem h_cons {Q : List V → Hp → Prop} (h : te σ H fun x H1 => tl σ H1 fun xs H2 => Q (x :: xs) H2) : tCons te tl σ H Q := h
theorem h_cb {f : List V → Hp → VK → Prop} (h : tl σ H fun vs H1 => f vs H1 Q) : tCB f tl σ H Q := h
theorem h_call {sp : Sp} {dvs : List V} {E : XK} (h : tl σ H fun vs H1 => sp (vs ++ dvs) H1 Q E) : tCall sp dvs E tl σ H Q := h
theorem h_callS {sp : Sp} {E : L2.St → XK} (h : tl σ H fun vs H1 => sp vs H1 Q (E σ)) : tCallS sp E tl σ H Q := h
theorem h_tup (h : tl σ H fun xs H1 => NewT xs H1 Q) : tTup tl σ H Q := h
theorem h_lst (h : tl σ H fun xs H1 => NewL xs H1 Q) : tLst tl σ H Q := h
theorem h_ixL {p : Addr} {xs : List V} (s : SqL K H p xs) (e : atI xs i = some v) (h : Q v H) : rIxL K (.ref p) (.int i) H Q := ⟨p, xs, i, v, rfl, rfl, s, e, h⟩
theorem h_ixT {p : Addr} {xs : List V} (s : SqT K H p xs) (e : atI xs i = some v) (h : Q v H) : rIxT K (.ref p) (.int i) H Q := ⟨p, xs, i, v, rfl, rfl, s, e, h⟩
end

section
variable {K : PySem.W.Frag} {σ : L2.St} {B B1 B' H H1 H' B0 H0 : Hp} {Q : VK} {W W' : List Addr} {p q : Addr} {xs ys : List V} {ds es : List D} {v : V} {d : D} {i j : Int} {te ta tb : TE}
theorem h_newL (w : Ex B H) (r : RepL K B xs ds) (h : ∀ p B' H', Stp [] B H B' H' → Rep K B' (.ref p) (.lst ds) → Q (.ref p) H') (hn : xs.length ≤ sizeLine) : NewL xs H Q :=
  ⟨hn, fun p hp => h p _ _ (Stp.new w hp) (.lst (SqL.of upd_same) (r.mono (Ex.new (w.none hp))))⟩
theorem h_newT (w : Ex B H) (r : RepL K B xs ds) (h : ∀ p B' H', Stp [] B H B' H' → Rep K B' (.ref p) (.tup ds) → Q (.ref p) H') (hn : xs.length ≤ sizeLine) : NewT xs H Q :=
  ⟨hn, fun p hp => h p _ _ (Stp.new w hp) (.tup (SqT.of upd_same) (r.mono (Ex.new (w.none hp))))⟩
theorem h_newM (w : Ex B H) (r : RepL K B xs ds) (h : ∀ p H', H p = none → Stp [] B H B H' → Mu K B H' p ds → Q (.ref p) H') (hn : xs.length ≤ sizeLine) : NewL xs H Q :=
  ⟨hn, fun p hp => h p _ hp (Stp.newM w hp) (Mu.new w hp r)⟩
theorem h_nwL (w : Ex B H) (r : RepL K B xs ds) (h : ∀ p B' H', Stp [] B H B' H' → Rep K B' (.ref p) (.lst ds) → Q (.ref p) H') : NwL xs H Q :=
  fun p hp => h p _ _ (Stp.new w hp) (.lst (SqL.of upd_same) (r.mono (Ex.new (w.none hp))))
theorem h_nwT (w : Ex B H) (r : RepL K B xs ds) (h : ∀ p B' H', Stp [] B H B' H' → Rep K B' (.ref p) (.tup ds) → Q (.ref p) H') : NwT xs H Q :=
  fun p hp => h p _ _ (Stp.new w hp) (.tup (SqT.of upd_same) (r.mono (Ex.new (w.none hp))))
theorem h_nwM (w : Ex B H) (r : RepL K B xs ds) (h : ∀ p H', H p = none → Stp [] B H B H' → Mu K B H' p ds → Q (.ref p) H') : NwL xs H Q :=
  fun p hp => h p _ hp (Stp.newM w hp) (Mu.new w hp r)
/-- what was free now was free at the entry -/
theorem Stp.nn (s : Stp W B0 H0 B H) (h : H p = none) : H0 p = none := by
  cases e : H0 p with
  | none => rfl
  | some o => obtain ⟨u, q⟩ := s.al p o e; rw [h] at q; cases q
/-- a step that writes at an object of our own -/
theorem Stp.own2 (a : Stp W B0 H0 B H) (s : Stp [p] B H B' H') (h0 : H0 p = none) : Stp W B0 H0 B' H' :=
  ⟨a.ex.trans s.ex, s.ok, fun x u hx e => s.fr x u (fun z => by
      rw [List.mem_singleton.mp z, h0] at e; cases e) (a.fr x u hx e), fun x u e => let ⟨u1, e1⟩ := a.al x u e; s.al x u1 e1, fun x u hb e => let ⟨u1, e1⟩ := a.al x u e; s.nw x u1 (a.nw x u hb e) e1⟩
theorem nm0 : p ∉ ([] : List Addr) := fun z => nomatch z
theorem nm1 (h : p ≠ q) : p ∉ [q] := fun z => h (List.mem_singleton.mp z)
theorem sub0 : ∀ x, x ∈ ([] : List Addr) → x ∈ W := fun _ z => nomatch z
/-- a list of our own is kept as it is -/
theorem Mu.keep (m : Mu K B H p ds) : ∃ B', Ex B B' ∧ (∀ q, q ≠ p → B q = none → B' q = none) ∧ (∀ W B0 H0, Stp W B0 H0 B H → Ex B0 H0 → H0 p = none → Stp W B0 H0 B' H) ∧ Rep K B' (.ref p) (.lst ds) := by
  obtain ⟨hb, xs, hp, r⟩ := m
  exact ⟨upd B p (.lst xs), Ex.new hb, fun q n e => by rw [upd_ne n]; exact e, fun W B0 H0 st w0 h0 => Stp.keep w0 st h0 hb hp, .lst (SqL.of upd_same) (r.mono (Ex.new hb))⟩
/-- a step that writes at what may be written and at objects of our own -/
theorem Stp.go (a : Stp W B0 H0 B H) (s : Stp W' B H B' H') (h : ∀ p, p ∈ W' → p ∈ W ∨ H0 p = none) : Stp W B0 H0 B' H' :=
  ⟨a.ex.trans s.ex, s.ok, fun x u hx e => s.fr x u (fun z => by
      rcases h x z with q | q
      · exact hx q
      · rw [q] at e; cases e) (a.fr x u hx e), fun x u e => let ⟨u1, e1⟩ := a.al x u e; s.al x u1 e1, fun x u hb e => let ⟨u1, e1⟩ := a.al x u e; s.nw x u1 (a.nw x u hb e) e1⟩
theorem go0 {F : Addr → Prop} : ∀ x, x ∈ ([] : List Addr) → F x := fun _ z => nomatch z
theorem go1 {F : Addr → Prop} (h : F p) : ∀ x, x ∈ [p] → F x := fun x z => by rw [List.mem_singleton.mp z]; exact h
theorem go2 {F : Addr → Prop} (h : F p) (h' : F q) : ∀ x, x ∈ [p, q] → F x := fun x z => by
  rcases List.mem_cons.mp z with e | e
  · rw [e]; exact h
  · rw [List.mem_singleton.mp e]; exact h'
theorem go3 {F : Addr → Prop} {r : Addr} (h : F p) (h' : F q) (h2 : F r) : ∀ x, x ∈ [p, q, r] → F x := fun x z => by
  rcases List.mem_cons.mp z with e | e
  · rw [e]; exact h
  · exact go2 h' h2 x e
theorem go4 {F : Addr → Prop} {r r2 : Addr} (h : F p) (h' : F q) (h2 : F r) (h3 : F r2) : ∀ x, x ∈ [p, q, r, r2] → F x := fun x z => by
  rcases List.mem_cons.mp z with e | e
  · rw [e]; exact h
  · exact go3 h' h2 h3 x e
theorem nm2 {r : Addr} (h : p ≠ q) (h' : p ≠ r) : p ∉ [q, r] := fun z => by
  rcases List.mem_cons.mp z with e | e
  · exact h e
  · exact h' (List.mem_singleton.mp e)
theorem nm3 {r r2 : Addr} (h : p ≠ q) (h' : p ≠ r) (h2 : p ≠ r2) : p ∉ [q, r, r2] := fun z => by
  rcases List.mem_cons.mp z with e | e
  · exact h e
  · exact nm2 h' h2 e
theorem nm4 {r r2 r3 : Addr} (h : p ≠ q) (h' : p ≠ r) (h2 : p ≠ r2) (h3 : p ≠ r3) : p ∉ [q, r, r2, r3] := fun z => by
  rcases List.mem_cons.mp z with e | e
  · exact h e
  · exact nm3 h' h2 h3 e
theorem Mu.kp (m : Mu K B H q es) (e : Ex B B') (k : ∀ q, q ≠ p → B q = none → B' q = none) (n : q ≠ p) : Mu K B' H q es := by
  obtain ⟨hb, xs, hp, r⟩ := m
  exact ⟨k q n hb, xs, hp, r.mono e⟩
theorem RepL.atE {α : Type} [Enc α] {l : List α} {x : α} (r : RepL K B xs (l.map enc)) (h : atI l i = some x) : ∃ v, atI xs i = some v ∧ Rep K B v (enc x) := by
  refine r.at ?_
  unfold atI at h ⊢
  rw [List.length_map]
  cases e : ixN l.length i with
  | none => rw [e] at h; cases h
  | some k =>
    rw [e] at h
    show (l.map enc)[k]? = _
    rw [List.getElem?_map, show l[k]? = some x from h]
    rfl
theorem h_pow {k : Int} (e : i ^ j.toNat = k) (c : CPow i j) (h : Q (.int k) H) : rI CPow (fun i j => .int (i ^ j.toNat)) (.int i) (.int j) H Q := ⟨i, j, rfl, rfl, c, by show Q (.int (i ^ j.toNat)) H; rw [e]; exact h⟩
instance (i j : Int) : Decidable (CPow i j) := by unfold CPow; infer_instance
instance (i j : Int) : Decidable (CMul i j) := by unfold CMul; infer_instance
instance (i j : Int) : Decidable (CDiv i j) := by unfold CDiv; infer_instance
def absI (i : Int) : Int := if i < 0 then -i else i
def b2z (b : Bool) : Int := if b then 1 else 0
theorem h_isB {a b : Bool} (h : Q (.bl (decide (a = b))) H) : rIsB (.bl a) (.bl b) H Q := ⟨a, b, rfl, rfl, h⟩
theorem h_isnotB {a b : Bool} (h : Q (.bl (!decide (a = b))) H) : rNotB (.bl a) (.bl b) H Q := ⟨a, b, rfl, rfl, h⟩
def rLenY (K : PySem.W.Frag) : List V → Hp → VK → Prop := fun xs H Q => ∃ p ys, xs = [.ref p] ∧ (SqL K H p ys ∨ SqT K H p ys) ∧ Q (.int ys.length) H
def rAbsY : List V → Hp → VK → Prop := fun xs H Q => ∃ i, xs = [.int i] ∧ Q (.int (if i < 0 then -i else i)) H
def rIntY : List V → Hp → VK → Prop := fun xs H Q => (∃ i, xs = [.int i] ∧ Q (.int i) H) ∨ ∃ k, xs = [.bl k] ∧ Q (.int (if k then 1 else 0)) H
def rStrY : List V → Hp → VK → Prop := fun xs H Q => ∃ i, xs = [.int i] ∧ i.natAbs.log2 < 1920 ∧ Q (.str (toString i)) H
def rListY (K : PySem.W.Frag) : List V → Hp → VK → Prop := fun xs H Q => ∃ p ys, xs = [.ref p] ∧ (SqL K H p ys ∨ SqT K H p ys) ∧ ∀ l, H l = none → Q (.ref l) (upd H l (.lst ys))
def rTupY (K : PySem.W.Frag) : List V → Hp → VK → Prop := fun xs H Q => ∃ p ys, xs = [.ref p] ∧ ((SqL K H p ys ∧ ∀ l, H l = none → Q (.ref l) (upd H l (.tup ys))) ∨ (SqT K H p ys ∧ Q (.ref p) H))
theorem cr_len {X : Cx} : CallR X (.builtin "len") (rLenY X.K) := call_len_seq
theorem cr_abs {X : Cx} : CallR X (.builtin "abs") rAbsY := call_abs
theorem cr_int {X : Cx} : CallR X (.type "int") rIntY := call_int1
theorem cr_str {X : Cx} : CallR X (.type "str") rStrY := call_str_int
theorem cr_list {X : Cx} : CallR X (.type "list") (rListY X.K) := call_list_of
theorem cr_tuple {X : Cx} : CallR X (.type "tuple") (rTupY X.K) := call_tuple_of
theorem h_len {α : Type} [Enc α] {l : List α} (s : SqL K H p xs) (r : RepL K B xs (l.map enc)) (h : Q (.int l.length) H) : rLenY K [V.ref p] H Q := by
  refine ⟨p, xs, rfl, .inl s, ?_⟩
  rw [show xs.length = l.length from by rw [r.length, List.length_map]]
  exact h
theorem h_lenT (s : SqT K H p xs) (r : RepL K B xs ds) (h : Q (.int ds.length) H) : rLenY K [V.ref p] H Q := by
  refine ⟨p, xs, rfl, .inr s, ?_⟩
  rw [r.length]
  exact h
theorem h_abs (h : Q (.int (absI i)) H) : rAbsY [V.int i] H Q := ⟨i, rfl, h⟩
theorem h_intB {b : Bool} (h : Q (.int (b2z b)) H) : rIntY [V.bl b] H Q := .inr ⟨b, rfl, h⟩
theorem h_intI (h : Q (.int i) H) : rIntY [V.int i] H Q := .inl ⟨i, rfl, h⟩
theorem h_str (c : i.natAbs.log2 < 1920) (h : Q (.str (toString i)) H) : rStrY [V.int i] H Q := ⟨i, rfl, c, h⟩
theorem h_listL (s : SqL K H p xs) (h : NwL xs H Q) : rListY K [V.ref p] H Q := ⟨p, xs, rfl, .inl s, h⟩
theorem h_listT (s : SqT K H p xs) (h : NwL xs H Q) : rListY K [V.ref p] H Q := ⟨p, xs, rfl, .inr s, h⟩
theorem h_tupL (s : SqL K H p xs) (h : NwT xs H Q) : rTupY K [V.ref p] H Q := ⟨p, xs, rfl, .inl ⟨s, h⟩⟩
theorem h_iteN {b : Bool} {A C : Prop} (h1 : b = false → A) (h2 : b = true → C) : if (!b) = true then A else C := by
  cases b
  · exact h_iteT (h1 rfl)
  · exact h_iteF (h2 rfl)
theorem h_iteNT {A C : Prop} (h : C) : if (!true) = true then A else C := h_iteF h
theorem h_iteNF {A C : Prop} (h : A) : if (!false) = true then A else C := h_iteT h
theorem Post.iteTn {α : Type} {m m' : Res α} {P : α → Prop} {R : Err → Prop} {c : Bool} (h : Post (if (!c) = true then m else m') P R) (hc : c = false) : Post m P R := by
  rw [hc] at h; exact h
theorem Post.iteFn {α : Type} {m m' : Res α} {P : α → Prop} {R : Err → Prop} {c : Bool} (h : Post (if (!c) = true then m else m') P R) (hc : c = true) : Post m' P R := by
  rw [hc] at h; exact h
end

/-! ### joins, loops, comprehensions, in step with the mirror -/
section
variable {K : PySem.W.Frag} {σ : L2.St} {B B1 B' H H1 H' B0 H0 : Hp} {Q : VK} {W W' : List Addr} {p q : Addr} {xs ys : List V} {ds es : List D} {v : V} {d : D} {t z tb : TS} {te : TE} {c tt : TT} {D' : Ends} {g : TG} {ti : TI}
variable {α β S R' : Type} {P : β → Prop} {R : Err → Prop}
theorem h_joinS {m : Res α} {k : α → Res β} (hP : Post (m.bind k) P R) (J : α → L2.St → Hp → Prop)
    (h1 : ∀ N : L2.St → Hp → Prop, (∀ a σ' H', J a σ' H' → Post (k a) P R → N σ' H') → Post m (fun a => Post (k a) P R) R → t { D' with nx := N } σ H)
    (h2 : ∀ a σ' H', J a σ' H' → Post (k a) P R → z D' σ' H') : tSeq t z D' σ H := h1 _ h2 hP.bind
theorem h_condJ {m : Res Bool} {k : Bool → Res β} {Qb : Bool → Hp → Prop} (hP : Post (m.bind k) P R) (J : Hp → Prop)
    (h1 : ∀ N : Bool → Hp → Prop, (∀ b H', J H' → Post (k b) P R → N b H') → Post m (fun b => Post (k b) P R) R → c σ H N)
    (h2 : ∀ b H', J H' → Post (k b) P R → Qb b H') : c σ H Qb := h1 _ h2 hP.bind
theorem h_exprJ {m : Res α} {k : α → Res β} (hP : Post (m.bind k) P R) (J : α → V → Hp → Prop)
    (h1 : ∀ N : VK, (∀ a v H', J a v H' → Post (k a) P R → N v H') → Post m (fun a => Post (k a) P R) R → te σ H N)
    (h2 : ∀ a v H', J a v H' → Post (k a) P R → Q v H') : te σ H Q := h1 _ h2 hP.bind
theorem h_gname {n : Nat} {Q : L2.St → Hp → Prop} (h : Q (σ.set n (some v)) H) : gName n v σ H Q := h
/-- behind a loop -/
def afterR (k : S → Res β) : Fl S β → Res β
  | .nx s => k s | .rt r => .ok r | .bk s => k s
/-- a join of ways of which some end the def (or the turn) -/
theorem h_joinF {m : Res (Fl S β)} {k : S → Res β} (hP : Post (m.bind (afterR k)) P R) (J : S → L2.St → Hp → Prop)
    (h1 : ∀ (N : L2.St → Hp → Prop) (T : Fl S β → Prop), (∀ a σ' H', J a σ' H' → T (.nx a) → N σ' H') → (∀ r, T (.rt r) → P r) → Post m T R → t { D' with nx := N } σ H)
    (h2 : ∀ a σ' H', J a σ' H' → Post (k a) P R → z D' σ' H') : tSeq t z D' σ H :=
  h1 _ (fun a => Post (afterR k a) P R) (fun a σ' H' j q => h2 a σ' H' j q) (fun _ q => (q : Post (.ok _) P R).ok) hP.bind
/-- what a turn hands on -/
def turnR (l : List α) (f : α → S → Res (Fl S R')) (i : Nat) (P : Fl S R' → Prop) (R : Err → Prop) : Fl S R' → Prop
  | .nx s => Post (forR (l.drop i) s f) P R | .rt r => P (.rt r) | .bk s => P (.bk s)
theorem Post.turn {l : List α} {i : Nat} {s : S} {f : α → S → Res (Fl S R')} {P : Fl S R' → Prop} {x : α} (h : Post (forR (l.drop i) s f) P R) (hx : l[i]? = some x) : Post (f x s) (turnR l f (i + 1) P R) R :=
  (Post.forS h hx).mono (fun r q => by cases r <;> exact q) fun _ q => q

theorem h_forE (h : te σ H fun x H1 => tFor (iList K (tC x)) g tb D' σ H1) : tFor (iList K te) g tb D' σ H := h
theorem h_forL [Enc α] {l : List α} {s0 : S} {f : α → S → Res (Fl S β)} {k : S → Res β} (hP : Post ((forR l s0 f).bind (afterR k)) P R) (hs : SqL K H p xs) (hr : RepL K B xs (l.map enc))
    (J : S → L2.St → Hp → Prop) (h0 : J s0 σ H) (hl : ∀ s σ' H', J s σ' H' → SqL K H' p xs)
    (hb : ∀ (N : L2.St → Hp → Prop) (T : Fl S β → Prop) (x : α) v s σ' H', J s σ' H' → Rep K B v (enc x) → (∀ s' σ2 H2, J s' σ2 H2 → T (.nx s') → N σ2 H2) → (∀ r, T (.rt r) → P r) → (∀ s' σ2 H2, J s' σ2 H2 → T (.bk s') → D'.nx σ2 H2) → Post (f x s) T R →
      g v σ' H' fun σ2 H2 => tb { D' with nx := N, ct := N, bk := D'.nx } σ2 H2)
    (hd : ∀ s σ' H', J s σ' H' → Post (k s) P R → D'.nx σ' H') : tFor (iList K (tC (.ref p))) g tb D' σ H := by
  refine ⟨p, rfl, ⟨xs, hs⟩, for_list (K := K) (a := p) (xs := xs) (fun i σ' H' => ∃ s, J s σ' H' ∧ Post (forR (l.drop i) s f) (fun a => Post (afterR k a) P R) R) ⟨s0, h0, hP.bind⟩ (fun i σ' H' _ ⟨s, j, _⟩ => hl s σ' H' j) ?_ ?_⟩
  · rintro i y σ' H' hi ⟨s, j, q⟩
    obtain ⟨x, hx⟩ : ∃ x, l[i]? = some x := by
      have h1 := (List.getElem?_eq_some_iff.mp hi).1
      rw [hr.length, List.length_map] at h1
      exact ⟨l[i], List.getElem?_eq_getElem h1⟩
    obtain ⟨u, hu, ru⟩ := hr.get (i := i) (d := enc x) (by rw [List.getElem?_map, hx]; rfl)
    rw [hi] at hu; cases hu
    exact hb _ _ x y s σ' H' j ru (fun s' σ2 H2 j2 t2 => ⟨s', j2, t2⟩) (fun r t2 => (t2 : Post (.ok r) P R).ok) (fun s' σ2 H2 j2 t2 => hd s' σ2 H2 j2 t2) (q.turn hx)
  · rintro σ' H' ⟨s, j, q⟩
    exact hd s σ' H' j (q.forN (by rw [hr.length, List.length_map]; exact Nat.le_refl _))
theorem h_forTE (h : te σ H fun x H1 => tFor (iTup K (tC x)) g tb D' σ H1) : tFor (iTup K te) g tb D' σ H := h
theorem h_forT [Enc α] {l : List α} {s0 : S} {f : α → S → Res (Fl S β)} {k : S → Res β} (hP : Post ((forR l s0 f).bind (afterR k)) P R) (hs : SqT K H p xs) (hr : RepL K B xs (l.map enc))
    (J : S → L2.St → Hp → Prop) (h0 : J s0 σ H) (hl : ∀ s σ' H', J s σ' H' → SqT K H' p xs)
    (hb : ∀ (N : L2.St → Hp → Prop) (T : Fl S β → Prop) (x : α) v s σ' H', J s σ' H' → Rep K B v (enc x) → (∀ s' σ2 H2, J s' σ2 H2 → T (.nx s') → N σ2 H2) → (∀ r, T (.rt r) → P r) → (∀ s' σ2 H2, J s' σ2 H2 → T (.bk s') → D'.nx σ2 H2) → Post (f x s) T R →
      g v σ' H' fun σ2 H2 => tb { D' with nx := N, ct := N, bk := D'.nx } σ2 H2)
    (hd : ∀ s σ' H', J s σ' H' → Post (k s) P R → D'.nx σ' H') : tFor (iTup K (tC (.ref p))) g tb D' σ H := by
  refine ⟨p, rfl, ⟨xs, hs⟩, for_tup (K := K) (a := p) (xs := xs) (fun i σ' H' => ∃ s, J s σ' H' ∧ Post (forR (l.drop i) s f) (fun a => Post (afterR k a) P R) R) ⟨s0, h0, hP.bind⟩ (fun i σ' H' _ ⟨s, j, _⟩ => hl s σ' H' j) ?_ ?_⟩
  · rintro i y σ' H' hi ⟨s, j, q⟩
    obtain ⟨x, hx⟩ : ∃ x, l[i]? = some x := by
      have h1 := (List.getElem?_eq_some_iff.mp hi).1
      rw [hr.length, List.length_map] at h1
      exact ⟨l[i], List.getElem?_eq_getElem h1⟩
    obtain ⟨u, hu, ru⟩ := hr.get (i := i) (d := enc x) (by rw [List.getElem?_map, hx]; rfl)
    rw [hi] at hu; cases hu
    exact hb _ _ x y s σ' H' j ru (fun s' σ2 H2 j2 t2 => ⟨s', j2, t2⟩) (fun r t2 => (t2 : Post (.ok r) P R).ok) (fun s' σ2 H2 j2 t2 => hd s' σ2 H2 j2 t2) (q.turn hx)
  · rintro σ' H' ⟨s, j, q⟩
    exact hd s σ' H' j (q.forN (by rw [hr.length, List.length_map]; exact Nat.le_refl _))
/-- the ints from lo on, below hi -/
def rngI (lo hi : Int) : List Int := (List.range (hi - lo).toNat).map fun (i : Nat) => lo + (i : Int)
theorem rngI_get {lo hi : Int} {i : Nat} (h : i < (hi - lo).toNat) : (rngI lo hi)[i]? = some (lo + (i : Int)) := by
  unfold rngI
  rw [List.getElem?_map, List.getElem?_range h]
  rfl
theorem rngI_len {lo hi : Int} : (rngI lo hi).length = (hi - lo).toNat := by
  unfold rngI
  rw [List.length_map, List.length_range]
def Rng1 (vs : List V) (g : TG) (tb : TS) (D' : Ends) (σ : L2.St) (H : Hp) : Prop := tFor (iRng1 (fun _ H Q => Q vs H)) g tb D' σ H
def Rng2 (vs : List V) (g : TG) (tb : TS) (D' : Ends) (σ : L2.St) (H : Hp) : Prop := tFor (iRng2 (fun _ H Q => Q vs H)) g tb D' σ H
theorem h_rng1 {ta : TA} (h : ta σ H fun vs H1 => Rng1 vs g tb D' σ H1) : tFor (iRng1 ta) g tb D' σ H := h
theorem h_rng2 {ta : TA} (h : ta σ H fun vs H1 => Rng2 vs g tb D' σ H1) : tFor (iRng2 ta) g tb D' σ H := h
theorem forRng {lo hi : Int} {s0 : S} {f : Int → S → Res (Fl S β)} {k : S → Res β} (hP : Post ((forR (rngI lo hi) s0 f).bind (afterR k)) P R)
    (J : S → L2.St → Hp → Prop) (h0 : J s0 σ H)
    (hb : ∀ (N : L2.St → Hp → Prop) (T : Fl S β → Prop) (x : Int) s σ' H', J s σ' H' → lo ≤ x → x < hi → (∀ s' σ2 H2, J s' σ2 H2 → T (.nx s') → N σ2 H2) → (∀ r, T (.rt r) → P r) → (∀ s' σ2 H2, J s' σ2 H2 → T (.bk s') → D'.nx σ2 H2) → Post (f x s) T R →
      g (.int x) σ' H' fun σ2 H2 => tb { D' with nx := N, ct := N, bk := D'.nx } σ2 H2)
    (hd : ∀ s σ' H', J s σ' H' → Post (k s) P R → D'.nx σ' H') :
    ∃ W : Nat → Nat → L2.St → Hp → Prop, (∃ m, W 0 m σ H) ∧ ∀ i m σ H, W i m σ H →
      ((Itr lo (hi - lo).toNat).stop i H ∧ D'.nx σ H) ∨ ((Itr lo (hi - lo).toNat).go i H ∧ ∃ N : L2.St → Hp → Prop, (∀ σ' H', N σ' H' → ∃ m', m' < m ∧ W (i + 1) m' σ' H') ∧ ∀ x H', (Itr lo (hi - lo).toNat).yld i H x H' → g x σ H' fun σ2 H2 => tb { D' with nx := N, ct := N, bk := D'.nx } σ2 H2) := by
  refine for_range (lo := lo) (n := (hi - lo).toNat) (fun i σ' H' => ∃ s, J s σ' H' ∧ Post (forR ((rngI lo hi).drop i) s f) (fun a => Post (afterR k a) P R) R) ⟨s0, h0, hP.bind⟩ ?_ ?_
  · rintro i σ' H' hi' ⟨s, j, q⟩
    exact hb _ _ (lo + (i : Int)) s σ' H' j (by omega) (by omega) (fun s' σ2 H2 j2 t2 => ⟨s', j2, t2⟩) (fun r t2 => (t2 : Post (.ok r) P R).ok) (fun s' σ2 H2 j2 t2 => hd s' σ2 H2 j2 t2) (q.turn (rngI_get hi'))
  · rintro σ' H' ⟨s, j, q⟩
    exact hd s σ' H' j (q.forN (by rw [rngI_len]; exact Nat.le_refl _))
theorem h_forR1 {hi : Int} {s0 : S} {f : Int → S → Res (Fl S β)} {k : S → Res β} (hP : Post ((forR (rngI 0 hi) s0 f).bind (afterR k)) P R) (hz : -(2 ^ 62) ≤ hi ∧ hi < 2 ^ 62)
    (J : S → L2.St → Hp → Prop) (h0 : J s0 σ H)
    (hb : ∀ (N : L2.St → Hp → Prop) (T : Fl S β → Prop) (x : Int) s σ' H', J s σ' H' → 0 ≤ x → x < hi → (∀ s' σ2 H2, J s' σ2 H2 → T (.nx s') → N σ2 H2) → (∀ r, T (.rt r) → P r) → (∀ s' σ2 H2, J s' σ2 H2 → T (.bk s') → D'.nx σ2 H2) → Post (f x s) T R →
      g (.int x) σ' H' fun σ2 H2 => tb { D' with nx := N, ct := N, bk := D'.nx } σ2 H2)
    (hd : ∀ s σ' H', J s σ' H' → Post (k s) P R → D'.nx σ' H') : Rng1 [.int hi] g tb D' σ H := by
  have q := forRng hP J h0 hb hd
  rw [Int.sub_zero] at q
  exact ⟨hi, rfl, hz.1, hz.2, q⟩
theorem h_forR2 {lo hi : Int} {s0 : S} {f : Int → S → Res (Fl S β)} {k : S → Res β} (hP : Post ((forR (rngI lo hi) s0 f).bind (afterR k)) P R) (hz : (-(2 ^ 62) ≤ lo ∧ lo < 2 ^ 62) ∧ -(2 ^ 62) ≤ hi ∧ hi < 2 ^ 62)
    (J : S → L2.St → Hp → Prop) (h0 : J s0 σ H)
    (hb : ∀ (N : L2.St → Hp → Prop) (T : Fl S β → Prop) (x : Int) s σ' H', J s σ' H' → lo ≤ x → x < hi → (∀ s' σ2 H2, J s' σ2 H2 → T (.nx s') → N σ2 H2) → (∀ r, T (.rt r) → P r) → (∀ s' σ2 H2, J s' σ2 H2 → T (.bk s') → D'.nx σ2 H2) → Post (f x s) T R →
      g (.int x) σ' H' fun σ2 H2 => tb { D' with nx := N, ct := N, bk := D'.nx } σ2 H2)
    (hd : ∀ s σ' H', J s σ' H' → Post (k s) P R → D'.nx σ' H') : Rng2 [.int lo, .int hi] g tb D' σ H :=
  ⟨lo, hi, rfl, ⟨hz.1.1, hz.1.2, hz.2.1, hz.2.2⟩, forRng hP J h0 hb hd⟩

/-! comprehensions -/
def compL : List α → S → (α → S → Res (Option R' × S)) → Res (List R' × S)
  | [], s, _ => .ok ([], s)
  | x :: xs, s, f => (f x s).bind fun r => (compL xs r.2 f).bind fun q => .ok (match r.1 with | some b => b :: q.1 | none => q.1, q.2)
def compR (l : List α) (s : S) (f : α → S → Res (Option R' × S)) : Res (List R' × S) := guardR (l.length ≤ 1000000) (compL l s f)
def compT (l : List α) (f : α → S → Res (Option R' × S)) (k : List R' × S → Res β) (acc : List R') (P : β → Prop) (R : Err → Prop) : Option R' × S → Prop
  | (some b, s) => Post ((compL l s f).bind fun q => k (acc ++ [b] ++ q.1, q.2)) P R
  | (none, s) => Post ((compL l s f).bind fun q => k (acc ++ q.1, q.2)) P R
theorem Post.compS {l : List α} {i : Nat} {s : S} {f : α → S → Res (Option R' × S)} {k : List R' × S → Res β} {acc : List R'} {x : α} (h : Post ((compL (l.drop i) s f).bind fun q => k (acc ++ q.1, q.2)) P R) (hx : l[i]? = some x) :
    Post (f x s) (compT (l.drop (i + 1)) f k acc P R) R := by
  obtain ⟨hi, e⟩ := List.getElem?_eq_some_iff.mp hx
  rw [List.drop_eq_getElem_cons hi, e] at h
  have h2 := (Post.bind (Post.bind h))
  refine h2.mono (fun r q => ?_) fun _ q => q
  obtain ⟨o, s'⟩ := r
  cases o with
  | some b =>
    show Post ((compL (l.drop (i + 1)) s' f).bind fun q => k (acc ++ [b] ++ q.1, q.2)) P R
    have q1 : Post ((compL (l.drop (i + 1)) s' f).bind fun q => .ok (b :: q.1, q.2)) (fun a => Post (k (acc ++ a.1, a.2)) P R) R := q
    generalize compL (l.drop (i + 1)) s' f = m at q1 ⊢
    cases m with
    | ok a =>
      have q2 : Post (k (acc ++ (b :: a.1), a.2)) P R := q1.ok
      show Post (k (acc ++ [b] ++ a.1, a.2)) P R
      rw [List.append_assoc]
      exact q2
    | err e => exact ⟨q1.h0⟩
    | stuck => exact ⟨q1.h0⟩
  | none =>
    show Post ((compL (l.drop (i + 1)) s' f).bind fun q => k (acc ++ q.1, q.2)) P R
    have q1 : Post ((compL (l.drop (i + 1)) s' f).bind fun q => .ok (q.1, q.2)) (fun a => Post (k (acc ++ a.1, a.2)) P R) R := q
    generalize compL (l.drop (i + 1)) s' f = m at q1 ⊢
    cases m
    · exact q1.ok
    · exact ⟨q1.h0⟩
    · exact ⟨q1.h0⟩
theorem h_app1 [Enc α] {l : List α} {b : α} {y : V} {N : Hp → Prop} (w : Ex B H) (m : Mu K B H p (l.map enc)) (r : Rep K B y (enc b)) (hz : l.length < sizeLine) (h : ∀ H', Stp [p] B H B H' → Mu K B H' p ((l ++ [b]).map enc) → N H') :
    ∃ acc, H p = some (.lst acc) ∧ acc.length < sizeLine ∧ N (upd H p (.lst (acc ++ [y]))) := by
  obtain ⟨hb, xs, hp, hr⟩ := id m
  refine ⟨xs, hp, by rw [hr.length, List.length_map]; exact hz, ?_⟩
  have rl : RepL K B (xs ++ [y]) ((l ++ [b]).map enc) := by
    rw [List.map_append]
    exact hr.append (.cons r .nil)
  obtain ⟨s, m'⟩ := Stp.mut w m rl
  exact h _ s m'
def LcL (K : PySem.W.Frag) (v : V) (g : TG) (tt : TT) (te : TE) (vs : List Nat) (σ : L2.St) (H : Hp) (Q : VK) : Prop := tLc (iList K (tC v)) g tt te vs σ H Q
theorem h_lcE {vs : List Nat} {tl : TE} (h : tl σ H fun x H1 => LcL K x g tt te vs σ H1 Q) : tLc (iList K tl) g tt te vs σ H Q := h
def LcT (σ : L2.St) (vs : List Nat) (tt : TT) (te : TE) (Dl : Addr) (N : Hp → Prop) : L2.St → Hp → Prop := fun σ2 H2 => wipe σ2 vs = wipe σ vs ∧ tt σ2 H2 fun b H3 =>
  if b = true then te σ2 H3 fun y H4 => ∃ acc, H4 Dl = some (.lst acc) ∧ acc.length < sizeLine ∧ N (upd H4 Dl (.lst (acc ++ [y]))) else N H3
def App (Dl : Addr) (N : Hp → Prop) : VK := fun y H4 => ∃ acc, H4 Dl = some (.lst acc) ∧ acc.length < sizeLine ∧ N (upd H4 Dl (.lst (acc ++ [y])))
theorem h_lcT {vs : List Nat} {Dl : Addr} {N : Hp → Prop} {σ2 : L2.St} (e : wipe σ2 vs = wipe σ vs) (h : te σ2 H (App Dl N)) : LcT σ vs tYes te Dl N σ2 H := ⟨e, h⟩
theorem h_lcI {vs : List Nat} {Dl : Addr} {N : Hp → Prop} {σ2 : L2.St} (e : wipe σ2 vs = wipe σ vs) (h : tt σ2 H fun b H3 => if b = true then te σ2 H3 (App Dl N) else N H3) : LcT σ vs tt te Dl N σ2 H := ⟨e, h⟩
theorem h_app [Enc α] {l : List α} {b : α} {y : V} {N : Hp → Prop} (w : Ex B H) (m : Mu K B H p (l.map enc)) (r : Rep K B y (enc b)) (hz : l.length < sizeLine) (h : ∀ H', Stp [p] B H B H' → Mu K B H' p ((l ++ [b]).map enc) → N H') : App p N y H := h_app1 w m r hz h
theorem h_lcL [Enc α] {l : List α} {s0 : S} {f : α → S → Res (Option R' × S)} {k : List R' × S → Res β} {vs : List Nat} (hP : Post ((compR l s0 f).bind k) P R) (hs : SqL K H p xs) (hr : RepL K B xs (l.map enc))
    (J : Addr → List R' → S → Hp → Prop) (h0 : ∀ Dl, H Dl = none → J Dl [] s0 (upd H Dl (.lst []))) (hl : ∀ Dl acc s H', J Dl acc s H' → SqL K H' p xs)
    (hb : ∀ (Dl : Addr) (N : Hp → Prop) (T : Option R' × S → Prop) (x : α) v acc s H', J Dl acc s H' → Rep K B v (enc x) → acc.length < sizeLine → (∀ b s' H2, J Dl (acc ++ [b]) s' H2 → T (some b, s') → N H2) → (∀ s' H2, J Dl acc s' H2 → T (none, s') → N H2) → Post (f x s) T R →
      g v (wipe σ vs) H' (LcT σ vs tt te Dl N))
    (hd : ∀ Dl acc s H', J Dl acc s H' → Post (k (acc, s)) P R → Q (.ref Dl) H') : LcL K (.ref p) g tt te vs σ H Q := by
  refine ⟨p, rfl, ⟨xs, hs⟩, fun Dl hD => ?_⟩
  unfold compR at hP
  have hz : l.length ≤ 1000000 := by
    by_cases c : l.length ≤ 1000000
    · exact c
    · unfold guardR at hP; rw [if_neg c] at hP; exact hP.elim
  unfold guardR at hP
  rw [if_pos hz] at hP
  refine lc_list (K := K) (a := p) (xs := xs) (fun i H' => ∃ acc s, J Dl acc s H' ∧ acc.length ≤ i ∧ Post ((compL (l.drop i) s f).bind fun q => k (acc ++ q.1, q.2)) P R) ⟨[], s0, h0 Dl hD, Nat.le_refl _, hP⟩ (fun i H' _ ⟨acc, s, j, _⟩ => hl Dl acc s H' j) ?_ ?_
  · rintro i y H' hi ⟨acc, s, j, hn, q⟩
    have h1 := (List.getElem?_eq_some_iff.mp hi).1
    rw [hr.length, List.length_map] at h1
    obtain ⟨x, hx⟩ : ∃ x, l[i]? = some x := ⟨l[i], List.getElem?_eq_getElem h1⟩
    obtain ⟨u, hu, ru⟩ := hr.get (i := i) (d := enc x) (by rw [List.getElem?_map, hx]; rfl)
    rw [hi] at hu; cases hu
    exact hb Dl _ _ x y acc s H' j ru (Nat.lt_of_le_of_lt (Nat.le_trans hn (Nat.le_trans (Nat.le_of_lt h1) hz)) (by decide)) (fun b s' H2 j2 t2 => ⟨acc ++ [b], s', j2, by rw [List.length_append]; exact Nat.succ_le_succ hn, t2⟩) (fun s' H2 j2 t2 => ⟨acc, s', j2, Nat.le_succ_of_le hn, t2⟩) (q.compS hx)
  · rintro H' ⟨acc, s, j, _, q⟩
    rw [hr.length, List.length_map, List.drop_eq_nil_of_le (Nat.le_refl _)] at q
    have q2 : Post (k (acc ++ [], s)) P R := q
    rw [List.append_nil] at q2
    exact hd Dl acc s H' j q2
def LcR1 (ws : List V) (g : TG) (tt : TT) (te : TE) (vs : List Nat) (σ : L2.St) (H : Hp) (Q : VK) : Prop := tLc (iRng1 (fun _ H Q => Q ws H)) g tt te vs σ H Q
theorem h_lcR1E {vs : List Nat} {ta : TA} (h : ta σ H fun ws H1 => LcR1 ws g tt te vs σ H1 Q) : tLc (iRng1 ta) g tt te vs σ H Q := h
theorem h_lcR1 {hi : Int} {s0 : S} {f : Int → S → Res (Option R' × S)} {k : List R' × S → Res β} {vs : List Nat} (hP : Post ((compR (rngI 0 hi) s0 f).bind k) P R)
    (J : Addr → List R' → S → Hp → Prop) (h0 : ∀ Dl, H Dl = none → J Dl [] s0 (upd H Dl (.lst [])))
    (hb : ∀ (Dl : Addr) (N : Hp → Prop) (T : Option R' × S → Prop) (x : Int) acc s H', J Dl acc s H' → 0 ≤ x → x < hi → acc.length < sizeLine → (∀ b s' H2, J Dl (acc ++ [b]) s' H2 → T (some b, s') → N H2) → (∀ s' H2, J Dl acc s' H2 → T (none, s') → N H2) → Post (f x s) T R →
      g (.int x) (wipe σ vs) H' (LcT σ vs tt te Dl N))
    (hd : ∀ Dl acc s H', J Dl acc s H' → Post (k (acc, s)) P R → Q (.ref Dl) H') (hlo : -(2 ^ 62) ≤ hi) : LcR1 [.int hi] g tt te vs σ H Q := by
  unfold compR at hP
  have hz : (rngI 0 hi).length ≤ 1000000 := by
    by_cases c : (rngI 0 hi).length ≤ 1000000
    · exact c
    · unfold guardR at hP; rw [if_neg c] at hP; exact hP.elim
  unfold guardR at hP
  rw [if_pos hz] at hP
  rw [rngI_len, Int.sub_zero] at hz
  refine ⟨hi, rfl, hlo, by omega, fun Dl hD => ?_⟩
  refine lc_range (lo := 0) (n := hi.toNat) (fun i H' => ∃ acc s, J Dl acc s H' ∧ acc.length ≤ i ∧ Post ((compL ((rngI 0 hi).drop i) s f).bind fun q => k (acc ++ q.1, q.2)) P R) ⟨[], s0, h0 Dl hD, Nat.le_refl _, hP⟩ ?_ ?_
  · rintro i H' hi' ⟨acc, s, j, hn, q⟩
    have hx := rngI_get (lo := 0) (hi := hi) (i := i) (by omega)
    have e : (0 : Int) + (i : Int) = (i : Int) := Int.zero_add _
    exact hb Dl _ _ (0 + (i : Int)) acc s H' j (by omega) (by omega) (Nat.lt_of_le_of_lt (Nat.le_trans hn (Nat.le_trans (Nat.le_of_lt hi') hz)) (by decide)) (fun b s' H2 j2 t2 => ⟨acc ++ [b], s', j2, by rw [List.length_append]; exact Nat.succ_le_succ hn, t2⟩) (fun s' H2 j2 t2 => ⟨acc, s', j2, Nat.le_succ_of_le hn, t2⟩) (q.compS hx)
  · rintro H' ⟨acc, s, j, _, q⟩
    rw [List.drop_eq_nil_of_le (by rw [rngI_len]; omega)] at q
    have q2 : Post (k (acc ++ [], s)) P R := q
    rw [List.append_nil] at q2
    exact hd Dl acc s H' j q2
end

section
variable {K : PySem.W.Frag} {B B' H H' B0 H0 : Hp} {W : List Addr} {p : Addr} {xs : List V} {ds : List D} {v : V} {a b c d : L2.St → Hp → Prop} {rt : VK} {σ : L2.St}
theorem Rep.sqB (r : Rep K B v (.lst ds)) : ∃ p xs, v = .ref p ∧ SqL K B p xs ∧ RepL K B xs ds := by
  cases r with
  | @lst p xs _ hp r => exact ⟨p, xs, rfl, hp, r⟩
theorem Rep.stB (r : Rep K B v (.tup ds)) : ∃ p xs, v = .ref p ∧ SqT K B p xs ∧ RepL K B xs ds := by
  cases r with
  | @tup p xs _ hp r => exact ⟨p, xs, rfl, hp, r⟩
theorem Bor.sq0 (m : Bor K B0 H0 W v ds) : ∃ p xs, v = .ref p ∧ RepL K B0 xs ds ∧ ∀ B' H', Stp W B0 H0 B' H' → SqL K H' p xs := by
  obtain ⟨p, xs, e, hp, r⟩ := m
  refine ⟨p, xs, e, r, fun B' H' s => ?_⟩
  rcases hp with ⟨hp | ⟨o, hp⟩, hw⟩ | hp
  · exact .inl (.inl (s.fr p _ hw hp))
  · exact .inl (.inr ⟨o, s.fr p _ hw hp⟩)
  · exact .inr hp
theorem h_ct (h : d σ H) : tCont (Ends.mk a rt b d) σ H := h
theorem h_bk (h : b σ H) : tBreak (Ends.mk a rt b d) σ H := h
end

/-! ### lists that change -/
def setR {α : Type} (l : List α) (i : Int) (x : α) : Res (List α) := match ixN l.length i with | some j => .ok (l.set j x) | none => .stuck
def Bm (K : PySem.W.Frag) (T : String) (r : V → List V → Hp → VK → Prop) (t : TA) (σ : L2.St) (x : V) (H : Hp) (Q : VK) : Prop := tyV K T x H ∧ t σ H fun xs H2 => r x xs H2 Q
def Bm0 (K : PySem.W.Frag) (T : String) (r : V → List V → Hp → VK → Prop) (σ : L2.St) (x : V) (H : Hp) (Q : VK) : Prop := tyV K T x H ∧ r x [] H Q
section
variable {K : PySem.W.Frag} {σ : L2.St} {B H : Hp} {Q : VK} {p q : Addr} {v y : V} {te to ti : TE} {t : TA} {D' : Ends} {z : TS} {i : Int} {r : V → List V → Hp → VK → Prop}
theorem h_bm {T : String} (h : to σ H fun x H1 => Bm K T r t σ x H1 Q) : tBM K T r to t σ H Q := h
theorem h_bm0 {T : String} (h : to σ H fun x H1 => Bm0 K T r σ x H1 Q) : tBM0 K T r to σ H Q := h
theorem Mu.tyV {ds : List D} (m : Mu K B H p ds) : tyV K "list" (.ref p) H := by
  obtain ⟨hb, xs, hp, _⟩ := m
  exact .inl ⟨rfl, _, .inl (.inl hp)⟩
theorem h_bmL {ds : List D} (m : Mu K B H p ds) (h : t σ H fun xs H2 => r (.ref p) xs H2 Q) : Bm K "list" r t σ (.ref p) H Q := ⟨m.tyV, h⟩
theorem h_bmL0 {ds : List D} (m : Mu K B H p ds) (h : r (.ref p) [] H Q) : Bm0 K "list" r σ (.ref p) H Q := ⟨m.tyV, h⟩
theorem h_append {α : Type} [Enc α] {l : List α} {b : α} (w : Ex B H) (m : Mu K B H p (l.map enc)) (ry : Rep K B y (enc b)) (hz : l.length < 1000000) (h : ∀ H', Stp [p] B H B H' → Mu K B H' p ((l ++ [b]).map enc) → Q .non H') : rAppend (.ref p) [y] H Q := by
  obtain ⟨hb, xs, hp, hr⟩ := id m
  refine ⟨p, xs, y, rfl, rfl, hp, by rw [hr.length, List.length_map]; exact Nat.lt_of_lt_of_le hz (by decide), ?_⟩
  have rl : RepL K B (xs ++ [y]) ((l ++ [b]).map enc) := by
    rw [List.map_append]
    exact hr.append (.cons ry .nil)
  obtain ⟨s, m'⟩ := Stp.mut w m rl
  exact h _ s m'
theorem h_extend {α : Type} [Enc α] {l l2 : List α} (w : Ex B H) (m : Mu K B H p (l.map enc)) (m2 : Mu K B H q (l2.map enc)) (hz : l.length + l2.length ≤ 1000000) (h : ∀ H', Stp [p] B H B H' → Mu K B H' p ((l ++ l2).map enc) → Q .non H') : rExtend (.ref p) [.ref q] H Q := by
  obtain ⟨hb, xs, hp, hr⟩ := id m
  obtain ⟨hb2, ys, hp2, hr2⟩ := id m2
  refine ⟨p, q, xs, ys, rfl, rfl, hp, hp2, by rw [hr.length, hr2.length, List.length_map, List.length_map]; exact Nat.le_trans hz (by decide), ?_⟩
  have rl : RepL K B (xs ++ ys) ((l ++ l2).map enc) := by
    rw [List.map_append]
    exact hr.append hr2
  obtain ⟨s, m'⟩ := Stp.mut w m rl
  exact h _ s m'
theorem RepL.set : ∀ {vs : List V} {ds : List D} {j : Nat} {d : D}, RepL K B vs ds → Rep K B v d → RepL K B (vs.set j v) (ds.set j d)
  | _, _, _, _, .nil, _ => .nil
  | _, _, 0, _, .cons _ t, r => .cons r t
  | _, _, j + 1, _, .cons h t, r => .cons h (RepL.set t r)
theorem Post.set {α β : Type} {l : List α} {x : α} {k : List α → Res β} {P : β → Prop} {R : Err → Prop} (h : Post ((setR l i x).bind k) P R) : ∃ j, ixN l.length i = some j ∧ Post (k (l.set j x)) P R := by
  unfold setR at h
  cases e : ixN l.length i with
  | none => rw [e] at h; exact h.elim
  | some j => rw [e] at h; exact ⟨j, rfl, h⟩
def SubS (K : PySem.W.Frag) (to ti : TE) (σ : L2.St) (v : V) (H : Hp) (N : L2.St → Hp → Prop) : Prop := gSub to ti rSetL v σ H N
theorem h_sub {N : L2.St → Hp → Prop} (h : to σ H fun o H1 => ti σ H1 fun i H2 => rSetL o i v H2 fun H3 => N σ H3) : gSub to ti rSetL v σ H N := h
theorem h_asg {g : TG} (h : te σ H fun x H1 => g x σ H1 D'.nx) : tAsg te g D' σ H := h
theorem h_setL {α : Type} [Enc α] {l : List α} {b : α} {N : Hp → Prop} {j : Nat} (w : Ex B H) (m : Mu K B H p (l.map enc)) (ry : Rep K B v (enc b)) (hj : ixN l.length i = some j) (h : ∀ H', Stp [p] B H B H' → Mu K B H' p ((l.set j b).map enc) → N H') : rSetL (.ref p) (.int i) v H N := by
  obtain ⟨hb, xs, hp, hr⟩ := id m
  refine ⟨p, xs, i, j, rfl, rfl, hp, by rw [hr.length, List.length_map]; exact hj, ?_⟩
  have rl : RepL K B (xs.set j v) ((l.set j b).map enc) := by
    rw [List.map_set]
    exact hr.set ry
  obtain ⟨s, m'⟩ := Stp.mut w m rl
  exact h _ s m'
end

/-- a value with a name -/
def lt {α β : Type} (d : α) (k : α → Res β) : Res β := k d
theorem Post.lt {α β : Type} {d : α} {k : α → Res β} {P : β → Prop} {R : Err → Prop} (h : Post (Y.lt d k) P R) : Post (k d) P R := h

/-! ### lists put together, cut, compared; keywords alone -/
def rCatQ (K : PySem.W.Frag) : R2 := fun x y H Q => ∃ a b xs ys, x = .ref a ∧ y = .ref b ∧ SqL K H a xs ∧ SqL K H b ys ∧ xs.length + ys.length ≤ sizeLine ∧ NwL (xs ++ ys) H Q
theorem op_catQ {X : Cx} : OpR X (binaryOp .Add) (rCatQ X.K) := by
  intro pins s σ H x y v u Q I rx ry h
  obtain ⟨a, b, xs, ys, rfl, rfl, ha, hb, hz, q⟩ := h
  cases rx
  cases ry
  obtain ⟨its, r, p1, z1⟩ := I.list ha
  obtain ⟨its2, r2, p2, z2⟩ := I.list hb
  have hl1 := r.length
  have hl2 := r2.length
  obtain ⟨⟨cls, dd, data, sl⟩, ho, hc, n, hd⟩ := p1.isList
  obtain ⟨⟨cls2, dd2, data2, sl2⟩, ho2, hc2, n2, hd2⟩ := p2.isList
  simp only at hc hd hc2 hd2
  subst hc hd hc2 hd2
  have e : its.toArray ++ its2.toArray = (its ++ its2).toArray := by simp
  refine concat_meets ⟨_, ho, rfl⟩ ⟨_, ho2, rfl⟩ noFill_list_add seq_list_add PySem.F.slot_list_add PySem.F.entry_list_add (PySem.F.args_list_add_2 _ _) (list_addW a b its.toArray its2.toArray n n2 dd dd2 sl sl2 (by rw [List.size_toArray, List.size_toArray]; omega)) ⟨ho, ho2, ?_⟩
  rw [e]
  exact ⟨.ref _, _, I.lnew (t' := s.toks) (r.append r2) (by rw [List.length_append]; omega), rfl, q _ I.fresh⟩
def rSlQ (K : PySem.W.Frag) : V → Option Int → Option Int → Hp → VK → Prop := fun x lo hi H Q => ∃ a xs, x = .ref a ∧ SqL K H a xs ∧ NwL (cutV xs lo hi) H Q
theorem sl_Q {X : Cx} : SlR X (rSlQ X.K) := sl_list
/-- l[lo:hi] -/
def cutL {α : Type} (l : List α) (lo hi : Option Int) : List α := (l.drop (HT.sIx l.length 0 lo)).take (HT.sIx l.length l.length hi - HT.sIx l.length 0 lo)
mutual
/-- as the library's data -/
def pyD : D → PyData
  | .non => .none | .bl b => .bool b | .int i => .int i | .str x => .str x | .lst ds => .list (pyDs ds) | .tup ds => .tuple (pyDs ds) | .dic _ => .dict [] | .obj _ _ => .dict []
def pyDs : List D → List PyData
  | [] => []
  | d :: ds => pyD d :: pyDs ds
end
mutual
/-- no dict within -/
def flatD : D → Bool
  | .lst ds => flatDs ds | .tup ds => flatDs ds | .dic _ => false | .obj _ _ => false | _ => true
def flatDs : List D → Bool
  | [] => true
  | d :: ds => flatD d && flatDs ds
end
/-- == of data -/
def eqD (a b : D) : Bool := PyData.eqv (pyD a) (pyD b)
section
variable {K : PySem.W.Frag} {B B' H H' : Hp}
mutual
theorem Rep.dp (w : Ex B H) : ∀ {v : V} {d : D}, Rep K B v d → flatD d = true → Dp K H v (pyD d)
  | _, _, .non, _ => .non
  | _, _, .bl b, _ => .bl b
  | _, _, .int i, _ => .int i
  | _, _, .str x, _ => .str x
  | _, _, .lst h r, f => .lst (w.l h) (RepL.dp w r f)
  | _, _, .tup h r, f => .tup (w.t h) (RepL.dp w r f)
  | _, _, .dic h r, f => nomatch f
  | _, _, .obj h k r, f => nomatch f
theorem RepL.dp (w : Ex B H) : ∀ {vs : List V} {ds : List D}, RepL K B vs ds → flatDs ds = true → DpAll K H vs (pyDs ds)
  | _, _, .nil, _ => .nil
  | _, _, .cons h t, f => by
    have f' : (flatD _ && flatDs _) = true := f
    rw [Bool.and_eq_true] at f'
    exact .cons (Rep.dp w h f'.1) (RepL.dp w t f'.2)
end
variable {σ : L2.St} {Q : VK} {x y v : V} {d e : D} {p q : Addr} {xs ys : List V} {i j k : Int} {tc te ta tb : TE} {lo hi : Option Int} {to tu : TO}
/-- what may be compared by == here -/
def okEq (d e : D) : Prop := flatD d = true ∧ flatD e = true ∧ SeqAt.shaped (pyD d) = true ∧ SeqAt.shaped (pyD e) = true
instance (d e : D) : Decidable (okEq d e) := by unfold okEq; infer_instance
theorem h_eqD (w : Ex B H) (rx : Rep K B x d) (ry : Rep K B y e) (o : okEq d e) (h : Q (.bl (eqD d e)) H) : rEqD K x y H Q := ⟨_, _, rx.dp w o.1, ry.dp w o.2.1, o.2.2.1, o.2.2.2, h⟩
theorem h_neD (w : Ex B H) (rx : Rep K B x d) (ry : Rep K B y e) (o : okEq d e) (h : Q (.bl (!eqD d e)) H) : rNeD K x y H Q := ⟨_, _, rx.dp w o.1, ry.dp w o.2.1, o.2.2.1, o.2.2.2, h⟩
theorem h_cat (s1 : SqL K H p xs) (s2 : SqL K H q ys) (hz : xs.length + ys.length ≤ sizeLine) (h : NwL (xs ++ ys) H Q) : rCatQ K (.ref p) (.ref q) H Q := ⟨p, q, xs, ys, rfl, rfl, s1, s2, hz, h⟩
theorem RepL.cat {α : Type} [Enc α] {l l2 : List α} (r : RepL K B xs (l.map enc)) (r2 : RepL K B ys (l2.map enc)) : RepL K B (xs ++ ys) ((l ++ l2).map enc) := by
  rw [List.map_append]; exact r.append r2
theorem RepL.take : ∀ {vs : List V} {ds : List D} (n : Nat), RepL K B vs ds → RepL K B (vs.take n) (ds.take n)
  | _, _, 0, _ => .nil
  | _, _, _ + 1, .nil => .nil
  | _, _, n + 1, .cons r t => .cons r (RepL.take n t)
theorem RepL.drop : ∀ {vs : List V} {ds : List D} (n : Nat), RepL K B vs ds → RepL K B (vs.drop n) (ds.drop n)
  | _, _, 0, r => r
  | _, _, _ + 1, .nil => .nil
  | _, _, n + 1, .cons _ t => RepL.drop n t
theorem RepL.cut {α : Type} [Enc α] {l : List α} (r : RepL K B xs (l.map enc)) (lo hi : Option Int) : RepL K B (cutV xs lo hi) ((cutL l lo hi).map enc) := by
  unfold cutV cutL
  rw [List.map_take, List.map_drop, r.length, List.length_map]
  exact (r.drop _).take _
theorem h_sl {r : V → Option Int → Option Int → Hp → VK → Prop} (h : te σ H fun x H1 => to σ H1 fun l H2 => tu σ H2 fun u H3 => r x l u H3 Q) : tSl r te to tu σ H Q := h
theorem h_part {N : Option Int → Hp → Prop} (h : te σ H fun x H1 => ∃ i, x = .int i ∧ N (some i) H1) : tPart te σ H N := h
theorem h_isI {f : Int → Prop} (h : f i) : ∃ j, V.int i = .int j ∧ f j := ⟨i, rfl, h⟩
theorem h_nopart {N : Option Int → Hp → Prop} (h : N none H) : tNoPart σ H N := h
theorem h_slQ (s : SqL K H p xs) (h : NwL (cutV xs lo hi) H Q) : rSlQ K (.ref p) lo hi H Q := ⟨p, xs, rfl, s, h⟩
theorem h_ch {g g' : Int → Int → Bool} (hc : ∀ Q : VK, Q (.int k) H → tc σ H Q) (h : Q (.bl (g i j && g' j k)) H) :
    rI0 (fun i j => .bl (g i j)) (.int i) (.int j) H (fun z H3 => ∃ c, z = .bl c ∧ (if c = true then tc σ H3 fun w' H4 => rI0 (fun i j => .bl (g' i j)) (.int j) w' H4 Q else Q (.bl false) H3)) := by
  refine ⟨i, j, rfl, rfl, g i j, rfl, ?_⟩
  cases e : g i j with
  | true =>
    refine h_iteT (hc _ ?_)
    rw [e, Bool.true_and] at h
    exact ⟨j, k, rfl, rfl, h⟩
  | false =>
    rw [e, Bool.false_and] at h
    exact h_iteF h
end
/-- f(k = v, ..) -/
def tCallK0 (sp : Sp) (gV : List V → List V) (E : XK) (tk : TA) : TE := fun σ H Q => tk σ H fun zs H2 => sp (gV zs) H2 Q E
theorem pe_callK0 {X : Cx} {CX : CXT} {k : Nat} {f : Addr} {fd : FuncData} {ps ks : List Str} {sp : Sp} {E : XK} {x : Str} {p pos : Pos} {kws : List Keyword} {tk : TA} {g : List Value → List Value → List Value} {gV : List V → List V → List V}
    (F : FnOk X.prog X.w X.K X.mg X.base CX k f fd ps sp) (hr : Room k X.A) (hg : Gl X x) (hm : X.mg x = some (.ref f)) (hk : PySem.W.keepIn X.K (.ref f) = true) (hb : KBinds X.K fd ps ks g gV) (hx : Passes CX X E)
    (hkw : PK X kws tk) (hall : (backToKw pos (keywordEach kws X.env)).all (·.1.isSome) = true := by rfl) (hks : (backToKw pos (keywordEach kws X.env)).filterMap (·.1) = ks := by rfl)
    (hdb : (x == ("__debug__" : Str)) = false := by decide)
    (hpl : ((backTo pos (starEach [] X.env)).any (·.1) || (backToKw pos (keywordEach kws X.env)).any (·.1.isNone)) = false := by rfl) :
    PE X (.Call (.Name x p) [] kws pos) (tCallK0 sp (gV []) E tk) := by
  refine ⟨fun pins s σ H Q I h => ?_⟩
  refine wpAny_Call_Name_kw (ld_glob I hg hm ?_ hdb)
  refine PySem.W.callWith_KW0 (h₀ := X.base) I.ok.mod.kin hk hall ?_ hpl
  refine thn (hkw.run pos pins s σ H _ I h) fun ws s2 ⟨zs, H2, I2, rz, q2⟩ => ⟨I2.kIn, ?_⟩
  rw [hks]
  exact run_fnk F hr hb hx I2 .nil rz q2
theorem h_callK0 {σ : L2.St} {H : Hp} {Q : VK} {sp : Sp} {gV : List V → List V} {E : XK} {tk : TA} (h : tk σ H fun zs H2 => sp (gV zs) H2 Q E) : tCallK0 sp gV E tk σ H Q := h
theorem h_callK {σ : L2.St} {H : Hp} {Q : VK} {sp : Sp} {gV : List V → List V → List V} {E : XK} {t tk : TA} (h : t σ H fun vs H1 => tk σ H1 fun zs H2 => sp (gV vs zs) H2 Q E) : tCallK sp gV E t tk σ H Q := h
theorem hu64_of {A : Around} {k : Nat} (hr : Room k A) : A.units + 64 < cLine := Nat.lt_of_le_of_lt (Nat.add_le_add_left (by decide : 64 ≤ 64) _) hr.units

/-! ### dicts as data -/
section
variable {K : PySem.W.Frag} {B H : Hp} {σ : L2.St} {Q : VK} {tk tv : TE} {v : V} {d : D} {i : Int} {p : Addr} {xs : List V}
theorem h_disp1I (hk : ∀ (H' : Hp) (Q : VK), Q (.int i) H' → tk σ H' Q) (hv : ∀ (H' : Hp) (Q : VK), Q v H' → tv σ H' Q) (w : Ex B H) (rv : Rep K B v d)
    (h : ∀ p B' H', Stp [] B H B' H' → Rep K B' (.ref p) (.dic [(.inl i, d)]) → Q (.ref p) H') : tDisp [(tk, tv)] σ H Q := fun p hp => by
  show tk σ (upd H p (.dK [])) _
  refine hk _ _ (hv _ _ ⟨upd_same, [(.inl i, v)], rfl, (by show 1 ≤ 15; decide), ?_⟩)
  rw [upd_upd]
  have hb := w.none hp
  exact h p _ _ (Stp.new w hp) (.dic upd_same (.cons (rv.mono (Ex.new hb)) .nil))
theorem h_dnew (w : Ex B H) (h : ∀ p B' H', Stp [] B H B' H' → Rep K B' (.ref p) (.dic []) → Q (.ref p) H') : tDNewK σ H Q := fun p hp => h p _ _ (Stp.new w hp) (.dic upd_same .nil)
def rDictP (K : PySem.W.Frag) : List V → Hp → VK → Prop := fun xs H Q => ∃ (a : Addr) (ps : List Addr) (kvs : List (Key × V)), xs = [.ref a] ∧ SqL K H a (ps.map V.ref) ∧ Paired (fun p kv => SqT K H p [kV kv.1, kv.2]) ps kvs ∧
    ∀ p, H p = none → Q (.ref p) (upd H p (.dK (mergeK [] kvs)))
theorem cr_dict {X : Cx} (hc : X.calm = true) : CallR X (.type "dict") (rDictP X.K) := call_dictP hc
def vD : V → D
  | .int i => .int i | .bl b => .bl b | .str x => .str x | _ => .non
/-- dict(pairs of ints), as data -/
def dictI (l : List (Tp2 Int Int)) : List (Key × D) := (mergeK [] (l.map fun t => ((Sum.inl t.a : Key), V.int t.b))).map fun kv => (kv.1, vD kv.2)
theorem putK_ints {kvs : List (Key × V)} {k : Key} {j : Int} (h : ∀ kv ∈ kvs, ∃ i, kv.2 = V.int i) : ∀ kv ∈ putK kvs k (V.int j), ∃ i, kv.2 = V.int i := by
  intro kv m
  unfold putK at m
  split at m
  · obtain ⟨q, hq, e⟩ := List.mem_map.mp m
    rw [← e]
    split
    · exact ⟨j, rfl⟩
    · exact h q hq
  · rcases List.mem_append.mp m with m | m
    · exact h kv m
    · rw [List.mem_singleton.mp m]; exact ⟨j, rfl⟩
theorem merge_ints : ∀ {l : List (Tp2 Int Int)} {acc : List (Key × V)}, (∀ kv ∈ acc, ∃ i, kv.2 = V.int i) → ∀ kv ∈ mergeK acc (l.map fun t => ((Sum.inl t.a : Key), V.int t.b)), ∃ i, kv.2 = V.int i
  | [], _, h => h
  | t :: r, acc, h => merge_ints (l := r) (putK_ints h)
theorem RepK.ints : ∀ {kvs : List (Key × V)}, (∀ kv ∈ kvs, ∃ i, kv.2 = V.int i) → RepK K B kvs (kvs.map fun kv => (kv.1, vD kv.2))
  | [], _ => .nil
  | (k, v) :: r, h => by
    obtain ⟨i, e⟩ := h (k, v) List.mem_cons_self
    have e' : v = V.int i := e
    subst e'
    exact .cons (.int i) (RepK.ints fun kv m => h kv (List.mem_cons_of_mem _ m))
theorem pairs_D (w : Ex B H) : ∀ {xs : List V} {l : List (Tp2 Int Int)}, RepL K B xs (l.map enc) → ∃ ps : List Addr, xs = ps.map V.ref ∧ Paired (fun p (kv : Key × V) => SqT K H p [kV kv.1, kv.2]) ps (l.map fun t => ((Sum.inl t.a : Key), V.int t.b))
  | [], [], _ => ⟨[], rfl, .nil⟩
  | _ :: _, [], r => nomatch r
  | [], _ :: _, r => nomatch r
  | v :: vs, t :: l, r => by
    cases r with
    | cons h q =>
      obtain ⟨ps, e, pr⟩ := pairs_D w q
      obtain ⟨p, ys, rfl, hs, hr⟩ := Rep.st w (show Rep K B v (.tup [enc t.a, enc t.b]) from h)
      cases hr with
      | cons h1 t1 =>
        cases t1 with
        | cons h2 t2 =>
          cases t2
          cases h1
          cases h2
          exact ⟨p :: ps, by rw [e]; rfl, .cons hs pr⟩
theorem h_dictP {l : List (Tp2 Int Int)} (w : Ex B H) (s : SqL K H p xs) (r : RepL K B xs (l.map enc)) (h : ∀ p B' H', Stp [] B H B' H' → Rep K B' (.ref p) (.dic (dictI l)) → Q (.ref p) H') : rDictP K [.ref p] H Q := by
  obtain ⟨ps, e, pr⟩ := pairs_D w r
  subst e
  exact ⟨p, ps, _, rfl, s, pr, fun q hq => h q _ _ (Stp.new w hq) (.dic upd_same (RepK.ints (merge_ints fun _ m => nomatch m)))⟩
end
theorem RepL.toD {K : PySem.W.Frag} {B : Hp} {α : Type} [Enc α] {xs : List V} {l : List α} (r : RepL K B xs (l.map enc)) : RepL K B xs ((l.map enc : List D).map enc) := by
  have e : (l.map enc : List D).map enc = l.map enc := List.map_id' _
  rw [e]; exact r
/-- a thing that is an int -/
def asI (d : D) : Res Int := match d with | .int i => .ok i | _ => .stuck
theorem Post.asI {β : Type} {d : D} {k : Int → Res β} {P : β → Prop} {R : Err → Prop} (h : Post ((Y.asI d).bind k) P R) : ∃ i, d = .int i ∧ Post (k i) P R := by
  cases d with
  | int i => exact ⟨i, rfl, h⟩
  | _ => exact h.elim
/-- a pair taken apart -/
def un2 {α β γ : Type} (k : α → β → γ) (p : α × β) : γ := k p.1 p.2
theorem Post.un2 {α β γ : Type} {k : α → β → Res γ} {a : α} {b : β} {P : γ → Prop} {R : Err → Prop} (h : Post (Y.un2 k (a, b)) P R) : Post (k a b) P R := h
/-- a thing that is a list | a tuple -/
def asL (d : D) : Res (List D) := match d with | .lst l => .ok l | _ => .stuck
def asT (d : D) : Res (List D) := match d with | .tup l => .ok l | _ => .stuck
theorem enc_Ds (l : List D) : (l.map enc : List D) = l := List.map_id' _
theorem Post.asL {β : Type} {d : D} {k : List D → Res β} {P : β → Prop} {R : Err → Prop} (h : Post ((Y.asL d).bind k) P R) : ∃ l : List D, d = .lst (l.map enc) ∧ Post (k l) P R := by
  cases d with
  | lst l => exact ⟨l, by rw [enc_Ds], h⟩
  | _ => exact h.elim
theorem Post.asT {β : Type} {d : D} {k : List D → Res β} {P : β → Prop} {R : Err → Prop} (h : Post ((Y.asT d).bind k) P R) : ∃ l : List D, d = .tup (l.map enc) ∧ Post (k l) P R := by
  cases d with
  | tup l => exact ⟨l, by rw [enc_Ds], h⟩
  | _ => exact h.elim
section
variable {K : PySem.W.Frag} {B H : Hp} {Q : VK} {p : Addr} {xs : List V}
theorem RepL.bools : ∀ {xs : List V} {bs : List Bool}, RepL K B xs (bs.map enc) → xs = bs.map V.bl
  | [], [], _ => rfl
  | _ :: _, [], r => nomatch r
  | [], _ :: _, r => nomatch r
  | v :: vs, b :: bs, r => by
    cases r with
    | cons h t =>
      cases h
      rw [RepL.bools t]
      rfl
theorem RepL.intsV : ∀ {xs : List V} {bs : List Int}, RepL K B xs (bs.map enc) → xs = bs.map V.int
  | [], [], _ => rfl
  | _ :: _, [], r => nomatch r
  | [], _ :: _, r => nomatch r
  | v :: vs, b :: bs, r => by
    cases r with
    | cons h t =>
      cases h
      rw [RepL.intsV t]
      rfl
theorem h_all {bs : List Bool} (s : SqL K H p xs) (r : RepL K B xs (bs.map enc)) (h : Q (.bl (bs.all id)) H) : rAll K [.ref p] H Q := ⟨p, bs, rfl, by rw [← r.bools]; exact s, h⟩
theorem h_any {bs : List Bool} (s : SqL K H p xs) (r : RepL K B xs (bs.map enc)) (h : Q (.bl (bs.any id)) H) : rAny K [.ref p] H Q := ⟨p, bs, rfl, by rw [← r.bools]; exact s, h⟩
theorem h_sum {ns : List Int} (s : SqL K H p xs) (r : RepL K B xs (ns.map enc)) (h : Q (.int ns.sum) H) : rSum K [.ref p] H Q := ⟨p, ns, rfl, by rw [← r.intsV]; exact s, h⟩
end
/-! ### the top -/
/-- the law's promise -/
def spTop (K : PySem.W.Frag) : Sp := fun vs H Q _ => ∃ (a : Addr) (ns : List Int), vs = [.ref a] ∧ ns.length ≤ 63 ∧ SqL K H a (ns.map V.int) ∧ ∀ H', Q (.bl true) H'
theorem top_of {K : PySem.W.Frag} {m : List Int → Res Bool} (hm : ∀ ns : List Int, ns.length ≤ 63 → m ns = .ok true) {vs : List V} {H : Hp} {Q : VK} {E : XK} (h : spTop K vs H Q E) :
    ∃ (B : Hp) (v : V) (a : List Int), Ex B H ∧ vs = [v] ∧ Bor K B H [] v (a.map enc) ∧ Post (m a) (fun r => Ret K [] B H (enc r) Q) (fun _ => False) := by
  obtain ⟨a, ns, e, hl, hs, k⟩ := h
  refine ⟨H, .ref a, ns, Ex.refl H, e, ⟨a, _, rfl, ?_, RepL.ints ns⟩, ?_⟩
  · rcases hs with hs | hs
    · exact .inl ⟨hs, fun z => nomatch z⟩
    · exact .inr hs
  · rw [hm ns hl]
    refine ⟨fun v B' H' st r => ?_⟩
    cases r
    exact k H'
theorem walk_top {l : PySem.W.OpenLaw} {q : Program} {loose : List Str} {XP : (Str → Option Value) → Heap → Prop} {YP : World → Heap → Prop} {d : DefRec} {K : Params → PySem.W.Frag} {x : Str} {k : Nat} (hn : l.most = some 63) (hdf : d.params.defaults = [])
    (hr : Room k callerA) (hY : ∀ (w : World) (h : Heap), YP w h → (K w.params).In h)
    (F : ∀ (w : World) (mg : Str → Option Value) (fa : Addr) (h : Heap), (K w.params).In h → h.Ns mainGlobals mg → mg d.name = some (.ref fa) →
      ∃ fd : FuncData, (∀ (s : Shared) (u : Value), BindsTo s fd ⟨[u], []⟩ [(x, u)]) ∧ ∀ base : Heap, (K w.params).In base → base.Ns mainGlobals mg → FnOk l.prog w (K w.params) mg base CX0 k fa fd [x] (spTop (K w.params))) :
    PySem.W.WalkO q loose XP YP l.row.toRowW d [] (fun f vs => PySem.call f vs) :=
  L2.walk_of (n := 63) (k := k) (x := x) (CX := fun _ => CX0) (sp := fun w => spTop (K w.params)) hn (by decide) hdf hr hY F (fun _ _ a ns hl _ hS => ⟨a, ns, rfl, hl, hS, fun _ => rfl⟩) fun _ _ _ _ _ z => z
/-- how its arguments bind by keywords -/
theorem _root_.L2.Fun.kb {K : PySem.W.Frag} {x qual : Str} {st : Stmt} {f : Addr} {fd : FuncData} {ps ks : List Str} {g : List Value → List Value → List Value} {gV : List V → List V → List V} (F : Fun K x qual st f fd)
    (h : ∀ (kV doc pm : Value) (an : Option Addr) (cdv ct : Value) (us ws : List Value), (g us ws).length = ps.length → bindArgs (PySem.W.fnOf x qual (defArgs st) (defBody st) (defScope st) .none kV doc pm an cdv ct) ⟨us, ks.zip ws⟩ = pure (ps.zip (g us ws)))
    (r : ∀ {vs : List V} {us : List Value} {zs : List V} {ws : List Value}, Vals vs us → Vals zs ws → Vals (gV vs zs) (g us ws)) : KBinds K fd ps ks g gV := by
  obtain ⟨oc, od, kV, doc, pm, an, cdv, ct, osl, rfl, lk, hcd⟩ := F.ex
  exact ⟨fun s us ws _ hl => .of_eq (h kV doc pm an cdv ct us ws hl), r⟩

/-! ### while -/
def whileR {S R : Type} : Nat → S → (S → Res (Fl S R)) → Res (Fl S R)
  | 0, _, _ => .stuck
  | n + 1, s, g => (g s).bind fun r => match r with | .nx s' => whileR n s' g | r => .ok r
section
variable {K : PySem.W.Frag} {σ : L2.St} {H : Hp} {Q : VK} {tb t : TS} {c : TT} {D' : Ends} {S β : Type} {P : β → Prop} {E : Err → Prop}
theorem h_while {n : Nat} {s0 : S} {f : S → Res (Fl S β)} {k : S → Res β} (hP : Post ((whileR n s0 f).bind (afterR k)) P E) (J : S → L2.St → Hp → Prop) (h0 : J s0 σ H)
    (hb : ∀ (N : L2.St → Hp → Prop) (C : (L2.St → Hp → Prop) → Prop) (T : Fl S β → Prop) s σ' H', J s σ' H' → C N → (∀ s' σ2 H2, J s' σ2 H2 → T (.nx s') → N σ2 H2) → (∀ r, T (.rt r) → P r) → (∀ s' σ2 H2, J s' σ2 H2 → T (.bk s') → D'.nx σ2 H2) → Post (f s) T E →
      c σ' H' fun b H1 => if b = true then ∃ N, C N ∧ tb { D' with nx := N, ct := N, bk := D'.nx } σ' H1 else D'.nx σ' H1)
    (hd : ∀ s σ' H', J s σ' H' → Post (k s) P E → D'.nx σ' H') : tWhile c tb D' σ H := by
  refine ⟨fun m σ' H' => ∃ s, J s σ' H' ∧ Post (whileR m s f) (fun a => Post (afterR k a) P E) E, ⟨n, s0, h0, hP.bind⟩, ?_⟩
  rintro m σ' H' ⟨s, j, q⟩
  cases m with
  | zero => exact Post.elim q
  | succ m =>
    refine hb (fun σ2 H2 => ∃ s', J s' σ2 H2 ∧ Post (whileR m s' f) (fun a => Post (afterR k a) P E) E) (fun N => ∀ σ2 H2, N σ2 H2 → ∃ m', m' < m + 1 ∧ ∃ s, J s σ2 H2 ∧ Post (whileR m' s f) (fun a => Post (afterR k a) P E) E)
      (fun r => match r with | .nx s' => Post (whileR m s' f) (fun a => Post (afterR k a) P E) E | .rt r => Post (.ok r) P E | .bk s' => Post (k s') P E) s σ' H' j (fun σ2 H2 h => ⟨m, Nat.lt_succ_self m, h⟩)
      (fun s' σ2 H2 j2 t2 => ⟨s', j2, t2⟩) (fun r t2 => Post.ok t2) (fun s' σ2 H2 j2 t2 => hd s' σ2 H2 j2 t2) ?_
    refine (Post.bind q).mono (fun r q => ?_) fun _ q => q
    cases r with
    | nx s' => exact q
    | rt r => exact q.ok
    | bk s' => exact q.ok
theorem h_par {i j : Nat} {ta : TA} (h : ta σ H fun vs H1 => ∃ v w, vs = [v, w] ∧ D'.nx ((σ.set i (some v)).set j (some w)) H1) : tPar i j ta D' σ H := h
theorem h_two {N : V → V → Prop} {x y : V} (h : N x y) : ∃ v w, [x, y] = [v, w] ∧ N v w := ⟨x, y, rfl, h⟩

/-! ### errors -/
def tryR {α : Type} (m : Res α) (h : Err → Res α) : Res α := match m with | .ok a => .ok a | .err e => h e | .stuck => .stuck
theorem Post.tr {α : Type} {m : Res α} {h : Err → Res α} {P : α → Prop} {R : Err → Prop} (q : Post (tryR m h) P R) : Post m P (fun e => Post (h e) P R) := by
  obtain ⟨q⟩ := q
  refine ⟨?_⟩
  cases m
  · exact q
  · exact ⟨q⟩
  · exact q
theorem h_tryJ {m : Res (Fl S β)} {h : Err → Res (Fl S β)} {k : S → Res β} (hP : Post ((tryR m h).bind (afterR k)) P E) (J : S → L2.St → Hp → Prop)
    (h1 : ∀ (N : L2.St → Hp → Prop) (T : Fl S β → Prop), (∀ s σ' H', J s σ' H' → T (.nx s) → N σ' H') → (∀ r, T (.rt r) → P r) → Post m T (fun e => Post (h e) T E) → t { D' with nx := N } σ H)
    (h2 : ∀ s σ' H', J s σ' H' → Post (k s) P E → D'.nx σ' H') : t D' σ H := by
  refine h1 _ (fun a => Post (afterR k a) P E) (fun s σ' H' j q => h2 s σ' H' j q) (fun r q => (q : Post (.ok r) P E).ok) ?_
  exact (Post.bind hP).tr
/-- what the written part says of an error's class -/
structure ExcT (K : PySem.W.Frag) (mg : Str → Option Value) (nm : Str) (C : Addr) : Prop where
  g : mg nm = some (.ref C)
  ec : ExcC K C
  ty : PySem.W.typeIn K (.ref C) = some (.type "type")
  kp : PySem.W.keepIn K (.ref C) = true
  ve : PySem.W.subIn K (.ref C) (.type "ValueError") = some true
  is : PySem.W.isClsIn K C = true
  self : PySem.W.subIn K (.ref C) (.ref C) = some true
/-- an error that is raised with a text alone -/
structure ExcR (K : PySem.W.Frag) (mg : Str → Option Value) (nm : Str) (C : Addr) : Prop extends ExcT K mg nm C where
  ex : PySem.W.excIn K C [.type "ValueError", .type "Exception", .type "BaseException", .type "object"] "ValueError.__new__" = true
theorem ExcT.names {X : Cx} {nm : Str} {C : Addr} (T : ExcT X.K X.mg nm C) (hg : Gl X nm) (hd : (nm == ("__debug__" : Str)) = false) : Names X nm (.ref C) := ⟨hg, hd, .inl T.g⟩
theorem ExcT.exm {mg : Str → Option Value} {nm : Str} {C : Addr} (T : ExcT K mg nm C) {cls : Value} {b : Bool} (h : PySem.W.subIn K cls (.ref C) = some b) : PySem.W.exmOne K cls (.ref C) = some b := PySem.W.exm_ref T.ec.hs T.ec.hd T.ty h
theorem ExcT.kit {mg : Str → Option Value} {nm : Str} {C C2 : Addr} (T : ExcT K mg nm C) {b : Bool} (h : PySem.W.subIn K (.ref C2) (.ref C) = some b) : PySem.W.kitOne K (.ref C2) (.ref C) = some b := by
  unfold PySem.W.kitOne
  by_cases e : (Value.ref C2 == Value.ref C) = true
  · rw [if_pos e]
    have e2 : C2 = C := Value.ref.inj (beq_iff_eq.mp e)
    subst e2
    exact T.self.symm.trans h
  · rw [if_neg e]
    have h2 : (PySem.W.clsIn K C).isSome = true := T.is
    show (if ((PySem.W.clsIn K C).isSome && PySem.W.typeIn K (.ref C) == some (.type "type")) = true then PySem.W.subIn K (.ref C2) (.ref C) else none) = some b
    rw [if_pos (by rw [h2, T.ty] <;> rfl)]
    exact h
theorem ExcT.kitVE {mg : Str → Option Value} {nm : Str} {C : Addr} (T : ExcT K mg nm C) : PySem.W.kitOne K (.ref C) (.type "ValueError") = some true := by
  unfold PySem.W.kitOne
  rw [if_neg (by simp)]
  show (if PySem.W.kitMeta "ValueError" = true then PySem.W.subIn K (.ref C) (.type "ValueError") else none) = some true
  rw [if_pos (by decide +kernel)]
  exact T.ve
def tIsE (K : PySem.W.Frag) (a : Addr) (cls : Value) (d : Option Addr) (targs : TA) : TE := fun σ H Q => ∃ Dc, cls = .ref Dc ∧ d = none ∧ ExcC K Dc ∧ tCB (rIsE K Dc a) targs σ H Q
theorem pe_isE {X : Cx} {e : Expr} {a : Addr} {cls : Value} {d : Option Addr} {targs : TA} (hK : X.K = K) (h : ∀ Dc, cls = .ref Dc → d = none → ExcC K Dc → PE X e (tCB (rIsE K Dc a) targs)) : PE X e (tIsE K a cls d targs) :=
  ⟨fun pins s σ H Q I q => by
    obtain ⟨Dc, e1, e2, ec, q⟩ := q
    exact (h Dc e1 e2 ec).run pins s σ H Q I q⟩
theorem h_isE {a C : Addr} {targs : TA} {mg : Str → Option Value} {nm : Str} (T : ExcT K mg nm C) (h : targs σ H fun vs H1 => rIsE K C a vs H1 Q) : tIsE K a (.ref C) none targs σ H Q := ⟨C, rfl, rfl, T.ec, h⟩
theorem h_isER {a C C2 : Addr} {b : Bool} (h : PySem.W.kitOne K (.ref C) (.ref C2) = some b) (q : Q (.bl b) H) : rIsE K C a [.ref a, .ref C2] H Q := ⟨.ref C2, .ref C2, b, rfl, fun _ r => r, h, q⟩
theorem h_isEB {a C : Addr} {n : String} {b : Bool} (h : PySem.W.kitOne K (.ref C) (.type n) = some b) (q : Q (.bl b) H) : rIsE K C a [.ref a, .ty n] H Q := ⟨.ty n, .type n, b, rfl, fun _ r => r, h, q⟩
/-- the clause of a try meets the error -/
theorem h_wAs {C S' : Addr} {i : Nat} {ts : Addr → Value → Option Addr → TS} {Wout : WX} {mg : Str → Option Value} {nm : Str} (T : ExcT K mg nm S') (hs : PySem.W.subIn K (.ref C) (.ref S') = some true)
    (h : ∀ a, H a = none → ts a (.ref C) none { nx := fun σ' H' => D'.nx (σ'.set i none) H', rt := D'.rt, bk := fun σ' H' => D'.bk (σ'.set i none) H', ct := fun σ' H' => D'.ct (σ'.set i none) H' } (σ.set i (some (.ref a))) H) :
    wAs K (.ref S') i ts Wout D' (.ref C) none σ H := ⟨true, T.exm hs, fun _ a ha => h a ha, fun q => nomatch q⟩
theorem h_wOnly {C S' : Addr} {ts : Addr → Value → Option Addr → TS} {Wout : WX} {mg : Str → Option Value} {nm : Str} (T : ExcT K mg nm S') (hs : PySem.W.subIn K (.ref C) (.ref S') = some true)
    (h : ∀ a, H a = none → ts a (.ref C) none D' σ H) : wOnly K (.ref S') ts Wout D' (.ref C) none σ H := ⟨true, T.exm hs, fun _ a ha => h a ha, fun q => nomatch q⟩
end

/-! ### a try by its name -/
def tTryA (K : PySem.W.Frag) (c : Value) (i : Nat) (ts : Addr → Value → Option Addr → TS) (Wout : WX) (tb : WX → TS) : TS := fun D σ H => tb (wAs K c i ts Wout D) D σ H
def tTryO (K : PySem.W.Frag) (c : Value) (ts : Addr → Value → Option Addr → TS) (Wout : WX) (tb : WX → TS) : TS := fun D σ H => tb (wOnly K c ts Wout D) D σ H
section
variable {X : Cx} {n x : Str} {c : Value} {i : Nat} {body suite : List Stmt} {b₀ : Stmt} {np pos pos' : Pos} {tb : WX → TS} {ts : Addr → Value → Option Addr → TS} {Wout : WX} {D' : Ends} {σ : L2.St} {H : Hp} {K : PySem.W.Frag}
theorem ps_tryA (hs : X.stack = X.env :: X.outer) (hf : X.env.frame = some X.env.locals) (hN : X.N.Nodup) (hi : X.N[i]? = some n) (hln : X.env.kindOf n = some .local) (hc : Names X x c) (tk : Takes X Wout)
    (hb : ∀ (W : WX) (pn : List (Addr × Obj)) (xe : Value → Shared → Prop), Takes (X.tr pn xe) W → PassesOwn (model X.prog X.w) X.A X.env xe → PSs (X.tr pn xe) body (tb W))
    (hsu : ∀ (a : Addr) (oe : Obj) (cls : Value) (d : Option Addr) (pn : List (Addr × Obj)), Zc cls d oe → (∃ vs, oe.data = .fields vs) → PSs (X.suite a ((a, oe) :: pn)) (b₀ :: suite) (ts a cls d)) (hK : X.K = K := by rfl) :
    PS X (.Try body [.ExceptHandler (some (.Name x np)) (some n) (b₀ :: suite) pos'] [] [] pos) (tTryA K c i ts Wout tb) := hK ▸ ps_try_as hs hf hN hi hln hc tk hb hsu
theorem ps_tryO (hs : X.stack = X.env :: X.outer) (hf : X.env.frame = some X.env.locals) (hc : Names X x c) (tk : Takes X Wout)
    (hb : ∀ (W : WX) (pn : List (Addr × Obj)) (xe : Value → Shared → Prop), Takes (X.tr pn xe) W → PassesOwn (model X.prog X.w) X.A X.env xe → PSs (X.tr pn xe) body (tb W))
    (hsu : ∀ (a : Addr) (oe : Obj) (cls : Value) (d : Option Addr) (pn : List (Addr × Obj)), Zc cls d oe → (∃ vs, oe.data = .fields vs) → PSs (X.suite a ((a, oe) :: pn)) (b₀ :: suite) (ts a cls d)) (hK : X.K = K := by rfl) :
    PS X (.Try body [.ExceptHandler (some (.Name x np)) none (b₀ :: suite) pos'] [] [] pos) (tTryO K c ts Wout tb) := hK ▸ ps_try_only hs hf hc tk hb hsu
theorem h_tryA (h : tb (wAs K c i ts Wout D') D' σ H) : tTryA K c i ts Wout tb D' σ H := h
theorem h_tryO (h : tb (wOnly K c ts Wout D') D' σ H) : tTryO K c ts Wout tb D' σ H := h
end
theorem Post.mono2 {α : Type} {m : Res α} {P P' : α → Prop} {R R' : Err → Prop} (h : Post m P R) (hr : ∀ e, R e → R' e) (hp : ∀ a, P a → P' a) : Post m P' R' := h.mono hp hr
theorem boot_ValueError : bootBuiltins "ValueError" = some (.type "ValueError") := by decide +kernel
/-! ### things that are lists or tuples -/
def lenD (d : D) : Res Int := match d with | .lst l => .ok l.length | .tup l => .ok l.length | .str x => .ok x.length | _ => .stuck
section
variable {K : PySem.W.Frag} {B H : Hp} {Q : VK} {v : V} {d : D} {σ : L2.St} {g : TGs}
theorem Post.lenD {β : Type} {k : Int → Res β} {P : β → Prop} {R : Err → Prop} (h : Post ((Y.lenD d).bind k) P R) (hs : ∀ x, d ≠ .str x) : ∃ ds : List D, (d = .lst ds ∨ d = .tup ds) ∧ Post (k ds.length) P R := by
  cases d with
  | lst l => exact ⟨l, .inl rfl, h⟩
  | tup l => exact ⟨l, .inr rfl, h⟩
  | str x => exact absurd rfl (hs x)
  | _ => exact h.elim
theorem h_tupG {n : Nat} {p : Addr} {xs : List V} {N : L2.St → Hp → Prop} (s : SqT K H p xs) (hl : xs.length = n) (h : g xs σ H N) : gTup K n g (.ref p) σ H N := ⟨p, xs, rfl, s, hl, h⟩
theorem h_gcons {t : TG} {u : TGs} {x : V} {xs : List V} {N : L2.St → Hp → Prop} (h : t x σ H fun σ' H' => u xs σ' H' N) : gCons t u (x :: xs) σ H N := ⟨x, xs, rfl, h⟩
theorem h_gnil {N : L2.St → Hp → Prop} (h : N σ H) : gNil [] σ H N := ⟨rfl, h⟩
end

section
variable {K : PySem.W.Frag} {B H : Hp} {Q : VK} {p : Addr} {xs : List V} {d1 d2 d3 d4 d5 : D}
theorem h_lenTl {l : List D} (s : SqT K H p xs) (r : RepL K B xs (l.map enc)) (h : Q (.int l.length) H) : rLenY K [V.ref p] H Q := by
  refine ⟨p, xs, rfl, .inr s, ?_⟩
  rw [show xs.length = l.length from by rw [r.length, List.length_map]]
  exact h
theorem tup2 {x y : V} (hl : xs.length = 2) (h0 : atI xs 0 = some x) (h1 : atI xs 1 = some y) : xs = [x, y] := by
  match xs, hl with
  | [a, b], _ =>
    have e0 : a = x := Option.some.inj h0
    have e1 : b = y := Option.some.inj h1
    rw [e0, e1]
theorem tup3 {x y z : V} (hl : xs.length = 3) (h0 : atI xs 0 = some x) (h1 : atI xs 1 = some y) (h2 : atI xs 2 = some z) : xs = [x, y, z] := by
  match xs, hl with
  | [a, b, c], _ =>
    have e0 : a = x := Option.some.inj h0
    have e1 : b = y := Option.some.inj h1
    have e2 : c = z := Option.some.inj h2
    rw [e0, e1, e2]
theorem tup4 {x y z u : V} (hl : xs.length = 4) (h0 : atI xs 0 = some x) (h1 : atI xs 1 = some y) (h2 : atI xs 2 = some z) (h3 : atI xs 3 = some u) : xs = [x, y, z, u] := by
  match xs, hl with
  | [a, b, c, d], _ =>
    have e0 : a = x := Option.some.inj h0
    have e1 : b = y := Option.some.inj h1
    have e2 : c = z := Option.some.inj h2
    have e3 : d = u := Option.some.inj h3
    rw [e0, e1, e2, e3]
theorem RepL.open2 (r : RepL K B xs [d1, d2]) : ∃ u1 u2, xs = [u1, u2] ∧ Rep K B u1 d1 ∧ Rep K B u2 d2 := by
  cases r with | cons h1 r => cases r with | cons h2 r => cases r; exact ⟨_, _, rfl, h1, h2⟩
theorem RepL.open3 (r : RepL K B xs [d1, d2, d3]) : ∃ u1 u2 u3, xs = [u1, u2, u3] ∧ Rep K B u1 d1 ∧ Rep K B u2 d2 ∧ Rep K B u3 d3 := by
  cases r with | cons h1 r => cases r with | cons h2 r => cases r with | cons h3 r => cases r; exact ⟨_, _, _, rfl, h1, h2, h3⟩
theorem RepL.open4 (r : RepL K B xs [d1, d2, d3, d4]) : ∃ u1 u2 u3 u4, xs = [u1, u2, u3, u4] ∧ Rep K B u1 d1 ∧ Rep K B u2 d2 ∧ Rep K B u3 d3 ∧ Rep K B u4 d4 := by
  cases r with | cons h1 r => cases r with | cons h2 r => cases r with | cons h3 r => cases r with | cons h4 r => cases r; exact ⟨_, _, _, _, rfl, h1, h2, h3, h4⟩
end
/-! ### defs with defaults -/
structure FunV (K : PySem.W.Frag) (x qual : Str) (st : Stmt) (dv : List Value) (f : Addr) (fd : FuncData) : Prop where
  ex : ∃ (oc : Value) (od : Option Addr) (T : Addr) (o : Obj) (n : Nat) (kV doc pm : Value) (an : Option Addr) (cdv ct : Value) (osl : Array (Option Value)),
    fd = PySem.W.fnOf x qual (defArgs st) (defBody st) (defScope st) (.ref T) kV doc pm an cdv ct ∧ K.lookup f = some ⟨oc, od, .func fd, osl⟩ ∧ PySem.W.codeIn K cdv qual = true ∧ K.lookup T = some o ∧ o.data = .seq dv.toArray n
  kp : PySem.W.keepIn K (.ref f) = true
section
variable {P : Program} {w : World} {K : PySem.W.Frag} {mg : Str → Option Value} {base : Heap} {x qual : Str} {st : Stmt} {dv : List Value} {f : Addr} {fd : FuncData} {ps ks : List Str}
theorem funV_mk {oc : Value} {od an oT : Option Addr} {osl sT : Array (Option Value)} {kV doc pm cdv ct cT : Value} {T : Addr} {n : Nat} (l : K.lookup f = some ⟨oc, od, .func (PySem.W.fnOf x qual (defArgs st) (defBody st) (defScope st) (.ref T) kV doc pm an cdv ct), osl⟩)
    (c : PySem.W.codeIn K cdv qual = true) (k : PySem.W.keepIn K (.ref f) = true) (lT : K.lookup T = some ⟨cT, oT, .seq dv.toArray n, sT⟩) : FunV K x qual st dv f (PySem.W.fnOf x qual (defArgs st) (defBody st) (defScope st) (.ref T) kV doc pm an cdv ct) :=
  ⟨⟨oc, od, T, _, n, kV, doc, pm, an, cdv, ct, osl, rfl, l, c, lT, rfl⟩, k⟩
theorem FunV.okX {N : List Str} {k : Nat} {sp : Sp} (F : FunV K x qual st dv f fd) (S : FnScope N ps (defScope st)) (len : ∀ vs H Q E, sp vs H Q E → vs.length = ps.length)
    (hbody : ∀ (cdv : Value) (A : Around) (outer : List Env) (s : Shared) (H : Hp) (vs : List V) (Q : VK) (E : XK), Room k (A.deeper (envOfC qual (defScope st) s.heap.objs.size f cdv)) → sp vs H Q E →
      ∃ t, PSs (cxOf (L2.CX P w) P w K mg base N qual (defScope st) f cdv A outer s H E) (defBody st) t ∧ t { nx := fun _ H' => Q .non H', rt := Q } (start N vs) H) : FnOk P w K mg base (L2.CX P w) (k + 1) f fd ps sp := by
  obtain ⟨oc, od, T, o, n, kV, doc, pm, an, cdv, ct, osl, rfl, lk, hcd, _, _⟩ := F.ex
  exact fn_of lk hcd S len fun A outer s H vs Q E hr hsp => hbody cdv A outer s H vs Q E hr hsp
theorem FunV.ok {N : List Str} {k : Nat} {sp : Sp} (F : FunV K x qual st dv f fd) (S : FnScope N ps (defScope st)) (len : ∀ vs H Q E, sp vs H Q E → vs.length = ps.length)
    (hbody : ∀ (cdv : Value) (A : Around) (outer : List Env) (s : Shared) (H : Hp) (vs : List V) (Q : VK) (E : XK), Room k (A.deeper (envOfC qual (defScope st) s.heap.objs.size f cdv)) → sp vs H Q E →
      ∃ t, PSs (cxOf CX0 P w K mg base N qual (defScope st) f cdv A outer s H E).nox (defBody st) t ∧ t { nx := fun _ H' => Q .non H', rt := Q } (start N vs) H) : FnOk P w K mg base CX0 (k + 1) f fd ps sp := by
  obtain ⟨oc, od, T, o, n, kV, doc, pm, an, cdv, ct, osl, rfl, lk, hcd, _, _⟩ := F.ex
  refine fn_of lk hcd S len fun A outer s H vs Q E hr hsp => ?_
  obtain ⟨t, h, q⟩ := hbody cdv A outer s H vs Q E hr hsp
  exact ⟨t, h.nox, q⟩
/-- n values are written, the defaults behind the first j fill up -/
theorem FunV.binds (F : FunV K x qual st dv f fd) (n j : Nat) (hn : n + (dv.length - j) = ps.length)
    (h : ∀ (T : Addr) (kV doc pm : Value) (an : Option Addr) (cdv ct : Value) (us : List Value), us.length = n →
      ∃ k, bindArgs (PySem.W.fnOf x qual (defArgs st) (defBody st) (defScope st) (.ref T) kV doc pm an cdv ct) ⟨us, []⟩ = seqItems? (.ref T) >>= k ∧ k (some dv.toArray) = pure (ps.zip (us ++ dv.drop j))) : Binds K fd ps (dv.drop j) := by
  obtain ⟨oc, od, T, o, m, kV, doc, pm, an, cdv, ct, osl, rfl, lk, hcd, lT, oT⟩ := F.ex
  refine fun s us X hlen => ?_
  have l2 : us.length = n := by
    rw [List.length_append, List.length_drop] at hlen
    omega
  obtain ⟨k, e1, e2⟩ := h T kV doc pm an cdv ct us l2
  refine BindsTo.of_looks fun M => ?_
  rw [e1]
  exact looks_items X lT oT (.of_pure e2)
theorem FunV.kb {g : List Value → List Value → List Value} {gV : List V → List V → List V} (F : FunV K x qual st dv f fd)
    (h : ∀ (T : Addr) (kV doc pm : Value) (an : Option Addr) (cdv ct : Value) (us ws : List Value), (g us ws).length = ps.length → ∃ k, bindArgs (PySem.W.fnOf x qual (defArgs st) (defBody st) (defScope st) (.ref T) kV doc pm an cdv ct) ⟨us, ks.zip ws⟩ = seqItems? (.ref T) >>= k ∧ k (some dv.toArray) = pure (ps.zip (g us ws)))
    (r : ∀ {vs : List V} {us : List Value} {zs : List V} {ws : List Value}, Vals vs us → Vals zs ws → Vals (gV vs zs) (g us ws)) : KBinds K fd ps ks g gV := by
  obtain ⟨oc, od, T, o, m, kV, doc, pm, an, cdv, ct, osl, rfl, lk, hcd, lT, oT⟩ := F.ex
  refine ⟨fun s us ws X hl => ?_, r⟩
  obtain ⟨k, e1, e2⟩ := h T kV doc pm an cdv ct us ws hl
  refine BindsTo.of_looks fun M => ?_
  rw [e1]
  exact looks_items X lT oT (.of_pure e2)
end
/-! ### // by what may be negative -/
def CDivZ (_ j : Int) : Prop := j ≠ 0 ∧ j.natAbs.log2 < 9000
instance {i j : Int} : Decidable (CDivZ i j) := inferInstanceAs (Decidable (_ ∧ _))
theorem op_fdivZ {X : Cx} : OpR X (binaryOp .FloorDiv) (rI CDivZ fun i j => .int (Int.fdiv i j)) := opI fun i j _ _ _ _ _ hc q => floordiv_int hc.1 q (.inl (PyProof.noPylong_of_log2 hc.2))
/-! ### x is None -/
def isNonD : D → Bool | .non => true | _ => false
def rIsN : V → V → Hp → VK → Prop := fun x y H Q => y = .non ∧ Q (.bl (decide (x = .non))) H
def rNotN : V → V → Hp → VK → Prop := fun x y H Q => y = .non ∧ Q (.bl (!decide (x = .non))) H
theorem op_isNn {X : Cx} : OpR X (compareOp .Is) rIsN := op_isN
theorem op_notNn {X : Cx} : OpR X (compareOp .IsNot) rNotN := op_notN
section
variable {K : PySem.W.Frag} {B H : Hp} {Q : VK} {v : V} {d : D}
theorem Rep.isNon (r : Rep K B v d) : decide (v = .non) = isNonD d := by
  cases r <;> rfl
theorem h_isN (r : Rep K B v d) (h : Q (.bl (isNonD d)) H) : rIsN v .non H Q := ⟨rfl, by rw [r.isNon]; exact h⟩
theorem h_notN (r : Rep K B v d) (h : Q (.bl (!isNonD d)) H) : rNotN v .non H Q := ⟨rfl, by rw [r.isNon]; exact h⟩
end
/-! ### bool + bool, comparisons of lists, xs[::-1], xs.pop(i) -/
theorem int_add_bb (a b : Bool) : Gives (Builtin.«int.__add__» ⟨[.bool a, .bool b], []⟩) (.int ((if a = true then (1 : Int) else 0) + (if b = true then (1 : Int) else 0))) :=
  .of_wp fun M A E s Q h => by obtain ⟨hp, g, d, tk, os⟩ := s; wp_walk; exact ⟨_, rfl, h⟩
def rAddBB : V → V → Hp → VK → Prop := fun x y H Q => ∃ a b, x = .bl a ∧ y = .bl b ∧ Q (.int (b2z a + b2z b)) H
theorem op_addBB {X : Cx} : OpR X (binaryOp .Add) rAddBB := by
  intro pins s σ H x y v u Q I rx ry h
  obtain ⟨a, b, rfl, rfl, q⟩ := h
  cases rx
  cases ry
  exact binaryOp_gives (op := .Add) (T := "bool") rfl rfl F.fills_bool_add F.slot_bool_add F.entry_int_add (F.args_int_add_2 _ _) (int_add_bb a b) trivial ⟨.int (b2z a + b2z b), H, I.tok _, ⟨_, rfl⟩, q⟩
def rAddIB : V → V → Hp → VK → Prop := fun x y H Q => ∃ i k, x = .int i ∧ y = .bl k ∧ Q (.int (i + b2i k)) H
theorem op_addIB {X : Cx} : OpR X (binaryOp .Add) rAddIB := op_add_ib
section
variable {K : PySem.W.Frag} {B B' H H' : Hp} {σ : L2.St} {Q : VK} {x y v : V} {d e : D} {p q : Addr} {xs ys : List V} {te : TE}
theorem h_addBB {a b : Bool} (h : Q (.int (b2z a + b2z b)) H) : rAddBB (.bl a) (.bl b) H Q := ⟨a, b, rfl, rfl, h⟩
theorem h_addIB {i : Int} {k : Bool} (h : Q (.int (i + b2z k)) H) : rAddIB (.int i) (.bl k) H Q := ⟨i, k, rfl, rfl, by cases k <;> exact h⟩
/-- what may be compared as data -/
def Cmp (K : PySem.W.Frag) (H : Hp) (v : V) (d : D) : Prop := flatD d = true → Dp K H v (pyD d)
theorem Rep.cp (w : Ex B H) (r : Rep K B v d) : Cmp K H v d := r.dp w
theorem SqL.cp {ds : List D} (w : Ex B H) (s : SqL K H p xs) (r : RepL K B xs ds) : Cmp K H (.ref p) (.lst ds) := fun f => .lst s (RepL.dp w r f)
theorem h_eqC (rx : Cmp K H x d) (ry : Cmp K H y e) (o : okEq d e) (h : Q (.bl (eqD d e)) H) : rEqD K x y H Q := ⟨_, _, rx o.1, ry o.2.1, o.2.2.1, o.2.2.2, h⟩
theorem h_neC (rx : Cmp K H x d) (ry : Cmp K H y e) (o : okEq d e) (h : Q (.bl (!eqD d e)) H) : rNeD K x y H Q := ⟨_, _, rx o.1, ry o.2.1, o.2.2.1, o.2.2.2, h⟩
/-- xs[::-1] -/
theorem h_revL (h : te σ H fun x H1 => ∃ a xs, x = .ref a ∧ SqL K H1 a xs ∧ NwL xs.reverse H1 Q) : tRevL K te σ H Q := h
theorem h_revQ (s : SqL K H p xs) (h : NwL xs.reverse H Q) : ∃ a ys, V.ref p = .ref a ∧ SqL K H a ys ∧ NwL ys.reverse H Q := ⟨p, xs, rfl, s, h⟩
theorem RepL.rev0 : ∀ {xs : List V} {ds : List D}, RepL K B xs ds → RepL K B xs.reverse ds.reverse
  | _, _, .nil => .nil
  | _, _, .cons h t => by rw [List.reverse_cons, List.reverse_cons]; exact (RepL.rev0 t).append (.cons h .nil)
theorem RepL.rev {α : Type} [Enc α] {l : List α} (r : RepL K B xs (l.map enc)) : RepL K B xs.reverse (l.reverse.map enc) := by
  rw [List.map_reverse]
  exact RepL.rev0 r
theorem RepL.erase : ∀ {xs : List V} {ds : List D} (k : Nat), RepL K B xs ds → RepL K B (xs.eraseIdx k) (ds.eraseIdx k)
  | _, _, _, .nil => .nil
  | _, _, 0, .cons h t => t
  | _, _, k + 1, .cons h t => .cons h (RepL.erase k t)
theorem map_erase {α : Type} [Enc α] : ∀ (l : List α) (k : Nat), (l.eraseIdx k).map (enc : α → D) = (l.map enc).eraseIdx k
  | [], _ => rfl
  | _ :: _, 0 => rfl
  | x :: xs, k + 1 => congrArg (enc x :: ·) (map_erase xs k)
/-- l.pop(i), i from 0 on -/
def popR {α : Type} (l : List α) (i : Int) : Res (α × List α) := if 0 ≤ i ∧ i < (l.length : Int) ∧ l.length ≤ 1000000 then match l[i.toNat]? with | some x => .ok (x, l.eraseIdx i.toNat) | none => .stuck else .stuck
theorem Post.pop {α β : Type} {l : List α} {i : Int} {k : α × List α → Res β} {P : β → Prop} {R : Err → Prop} (h : Post ((popR l i).bind k) P R) : ∃ x, (0 ≤ i ∧ i < (l.length : Int) ∧ l.length ≤ 1000000) ∧ l[i.toNat]? = some x ∧ Post (k (x, l.eraseIdx i.toNat)) P R := by
  unfold popR at h
  by_cases c : 0 ≤ i ∧ i < (l.length : Int) ∧ l.length ≤ 1000000
  · rw [if_pos c] at h
    cases e : l[i.toNat]? with
    | none => rw [e] at h; exact h.elim
    | some x => rw [e] at h; exact ⟨x, c, rfl, h⟩
  · rw [if_neg c] at h; exact h.elim
theorem h_popL {α : Type} [Enc α] {l : List α} {i : Int} {b : α} (w : Ex B H) (m : Mu K B H p (l.map enc)) (hi : 0 ≤ i ∧ i < (l.length : Int) ∧ l.length ≤ 1000000) (hb : l[i.toNat]? = some b)
    (h : ∀ y H', Stp [p] B H B H' → Mu K B H' p ((l.eraseIdx i.toNat).map enc) → Rep K B y (enc b) → Q y H') : rPopAt (.ref p) [.int i] H Q := by
  obtain ⟨hb0, xs, hp, hr⟩ := id m
  have hl : xs.length = l.length := by rw [hr.length, List.length_map]
  obtain ⟨u, hu, ru⟩ := hr.get (i := i.toNat) (d := enc b) (by rw [List.getElem?_map, hb]; rfl)
  have rl : RepL K B (xs.eraseIdx i.toNat) ((l.eraseIdx i.toNat).map enc) := by
    rw [map_erase]
    exact RepL.erase _ hr
  refine ⟨p, xs, i, i.toNat, u, rfl, rfl, hp, by omega, by omega, ?_, hu, ?_⟩
  · unfold seqIndex?
    rw [hl]
    simp [show ¬ i < 0 from by omega, hi.1, hi.2.1]
  · obtain ⟨s, m'⟩ := Stp.mut w m rl
    exact h _ _ s m' ru
end
theorem pg_tupK {X : Cx} {pos : Pos} {es : List Expr} {k : Nat} {t : TGs} {n : Nat} {K : PySem.W.Frag} (hc : X.calm = true) (hK : X.K = K) (h : PGs X es t)
    (hn : (assignEach es X.env).length = n := by rfl) (hst : (assignEach es X.env).findIdx? (·.1) = none := by rfl) : PG X (.Tuple es k pos) (gTup K n t) := hK ▸ pg_tup hc h hn hst
/-! ### l * k, casts, constants -/
theorem list_mulW (l : Addr) (items : Array Value) (n : Nat) (dd : Option Addr) (sl : Array (Option Value)) (x : Int) (u : Tok) (hc0 : ¬(!Builtin.List.listFitsIndex x) = true) (hc1 : ¬items.size * x.toNat > (2 ^ 63 - 1) / 8) (hc2 : ¬Builtin.List.listTooLong (items.size * x.toNat) = true) :
    Meets (Builtin.«list.__mul__» ⟨[.ref l, .int x u], []⟩) (fun _ R s => s.heap.get? l = some { cls := .type "list", dict := dd, data := .seq items n, slots := sl } ∧ R (.ok (.ret (Value.ref s.heap.objs.size))) { s with heap := s.heap.push { cls := Value.type "list", data := Data.seq (List.foldl (fun x1 x2 => x1 ++ x2) #[] (List.replicate (if items.isEmpty = true then 0 else x.toNat) items)) }, toks := s.toks }) :=
  .of_wp fun prog w A R s h => by
    obtain ⟨hp, g, d, tk, os⟩ := s; obtain ⟨hl, h⟩ := h
    have hsz := PySem.AutoListH.joined_fits hc2
    wp_walk; refine wpAny_ite_false (decide_eq_false (Nat.not_lt.mpr hsz)) ?_; wp_walk; exact ⟨_, rfl, h⟩
theorem int_rmulW (a : Int) (t : Tok) (l : Addr) (items : Array Value) (n : Nat) (dd : Option Addr) (sl : Array (Option Value)) :
    Meets (Builtin.«int.__rmul__» ⟨[.int a t, .ref l], []⟩) (fun _ R s => s.heap.get? l = some { cls := .type "list", dict := dd, data := .seq items n, slots := sl } ∧ R (.ok (.ret Value.notImplemented)) s) :=
  .of_wp fun prog w A R s h => by obtain ⟨hp, g, d, tk, os⟩ := s; obtain ⟨hl, h⟩ := h; wp_walk; exact ⟨_, rfl, h⟩
def rRepQ (K : PySem.W.Frag) : R2 := fun x y H Q => ∃ l k xs, x = .ref l ∧ y = .int k ∧ SqL K H l xs ∧ -(2 ^ 63) ≤ k ∧ k < 2 ^ 63 ∧ xs.length * k.toNat ≤ sizeLine ∧ NwL (List.replicate k.toNat xs).flatten H Q
theorem op_repQ {X : Cx} : OpR X (binaryOp .Mult) (rRepQ X.K) := by
  intro pins s σ H x y v u Q I rx ry h
  obtain ⟨l, k, xs, rfl, rfl, hH, h1, h2, hz, q⟩ := h
  cases rx
  obtain ⟨t, rfl⟩ := ry
  obtain ⟨its, r, p1, z⟩ := I.list hH
  have hl := r.length
  obtain ⟨⟨cls, dd, data, sl⟩, e, hc, n, hd⟩ := p1.isList
  simp only at hc hd
  subst hc hd
  have hlen : its.toArray.size * k.toNat ≤ sizeLine := by rw [List.size_toArray, ← hl]; exact hz
  have hcap : ¬ its.toArray.size * k.toNat > (2 ^ 63 - 1) / 8 := by
    have : (sizeLine : Nat) ≤ (2 ^ 63 - 1) / 8 := by decide
    omega
  have hfit : ¬ (!Builtin.List.listFitsIndex k) = true := by
    rw [fitsIndex_both h1 h2]
    exact Bool.false_ne_true
  have hlong : ¬ Builtin.List.listTooLong (its.toArray.size * k.toNat) = true := by
    rw [notLongL hlen]
    exact Bool.false_ne_true
  have hnew : List.foldl (fun x1 x2 => x1 ++ x2) #[] (List.replicate (if its.toArray.isEmpty = true then 0 else k.toNat) its.toArray) = (List.replicate k.toNat its).flatten.toArray := by
    have f0 : ∀ m : Nat, List.foldl (fun x1 x2 => x1 ++ x2) #[] (List.replicate m its.toArray) = (List.replicate m its).flatten.toArray := fun m => by
      have := foldl_rep its m []
      rw [List.nil_append] at this
      exact this
    rw [f0]
    cases its with
    | nil => simp
    | cons a r' => rw [if_neg (by simp)]
  refine wpAny_binaryOp_repeat_ref (T := "list") (U := "int") (by decide) ⟨_, e, rfl⟩ (fun s' => typeIs_int s' k t) noFill_list_mul F.fills_int_mul F.slot_int_rmul repeat_list F.slot_int_index.lookup
    (call_meets F.slot_int_rmul (typeIs_int s k t) F.entry_int_rmul (F.args_int_rmul_2 _ _) (int_rmulW k t l its.toArray n dd sl)
      ⟨e, rfl, ⟨_, e, rfl⟩, call_meets F.slot_list_mul ⟨_, e, rfl⟩ F.entry_list_mul (F.args_list_mul_2 _ _) (list_mulW l its.toArray n dd sl k t hfit hcap hlong) ⟨e, ?_⟩⟩)
  rw [hnew]
  exact ⟨.ref _, _, I.lnew (t' := s.toks) (r.rep k.toNat) (by rw [PyProof.Rows.lm_len_rep_flat, Nat.mul_comm]; exact hz), rfl, q _ I.fresh⟩
section
variable {K : PySem.W.Frag} {B B' H H' : Hp} {σ : L2.St} {Q : VK} {x y v : V} {d e : D} {p q : Addr} {xs ys : List V} {te : TE}
theorem h_repQ {k : Int} {n : Nat} (s : SqL K H p xs) (hn : xs.length = n) (hz : n * k.toNat ≤ 1000000 ∧ -(2 ^ 62) ≤ k ∧ k < 2 ^ 62) (h : NwL (List.replicate k.toNat xs).flatten H Q) : rRepQ K (.ref p) (.int k) H Q :=
  ⟨p, k, xs, rfl, rfl, s, by omega, by omega, by rw [hn]; exact Nat.le_trans hz.1 (by decide), h⟩
theorem RepL.rep0 {ds : List D} (r : RepL K B xs ds) : ∀ k : Nat, RepL K B (List.replicate k xs).flatten (List.replicate k ds).flatten
  | 0 => .nil
  | k + 1 => by rw [List.replicate_succ, List.replicate_succ, List.flatten_cons, List.flatten_cons]; exact r.append (RepL.rep0 r k)
/-- l * k -/
def timesL {α : Type} (l : List α) (k : Int) : List α := (List.replicate k.toNat l).flatten
theorem RepL.times {α : Type} [Enc α] {l : List α} (r : RepL K B xs (l.map enc)) (k : Int) : RepL K B (List.replicate k.toNat xs).flatten ((timesL l k).map enc) := by
  have e : (timesL l k).map (enc : α → D) = (List.replicate k.toNat (l.map enc)).flatten := by
    unfold timesL
    rw [List.map_flatten, List.map_replicate]
  rw [e]
  exact r.rep0 _
/-- isinstance of a list that is only read, or of our own -/
theorem isiL {t : String} {l : List D} (s : SqL K H p xs) (q : Q (.bl (isA t (.lst l))) H) (ht : t ∈ ["bool", "int", "str", "list", "tuple", "dict"] := by simp) : rIsi K [.ref p, .ty t] H Q := by
  have ty : TyX K H (.ref p) (.type "list") := by
    rcases s with (h | ⟨o, h⟩) | ⟨o, its, n, h, hc, _⟩
    · exact .base (.lst h)
    · exact .base (.frz h)
    · exact .kList h hc
  exact ⟨.ref p, .ty t, _, .type t, isA t (.lst l), rfl, .ty t, ty, kit_ty (kit_tab _ (tyD_in (.lst l) rfl) _ ht), q⟩
end
/-! ### things read as what they are -/
class Dec (α : Type) [Enc α] where
  dec : D → Option α
  ok : ∀ d x, dec d = some x → d = enc x
instance : Dec D := ⟨fun d => some d, fun d x e => Option.some.inj e⟩
instance : Dec Int := ⟨fun d => match d with | .int i => some i | _ => none, fun d x e => by cases d <;> simp at e; rw [e]; rfl⟩
instance : Dec Bool := ⟨fun d => match d with | .bl i => some i | _ => none, fun d x e => by cases d <;> simp at e; rw [e]; rfl⟩
instance : Dec Str := ⟨fun d => match d with | .str i => some i | _ => none, fun d x e => by cases d <;> simp at e; rw [e]; rfl⟩
instance {α : Type} [Enc α] [Dec α] : Dec (Option α) := ⟨fun d => match d with | .non => some none | d => (Dec.dec d).map some, fun d x e => by
  cases d with
  | non => cases Option.some.inj e; rfl
  | _ => all_goals
    obtain ⟨y, e1, e2⟩ := Option.map_eq_some_iff.mp (show Option.map some _ = some x from e)
    rw [← e2]
    show _ = (enc y : D)
    exact Dec.ok _ _ e1⟩
instance {α β : Type} [Enc α] [Enc β] [Dec α] [Dec β] : Dec (Tp2 α β) := ⟨fun d => match d with | .tup [a, b] => (Dec.dec a).bind fun x => (Dec.dec b).bind fun y => some ⟨x, y⟩ | _ => none, fun d x e => by
  split at e
  · obtain ⟨u, e1, e⟩ := Option.bind_eq_some_iff.mp e
    obtain ⟨w, e2, e⟩ := Option.bind_eq_some_iff.mp e
    cases Option.some.inj e
    rw [Dec.ok _ _ e1, Dec.ok _ _ e2]
    rfl
  · cases e⟩
instance {α β γ : Type} [Enc α] [Enc β] [Enc γ] [Dec α] [Dec β] [Dec γ] : Dec (Tp3 α β γ) := ⟨fun d => match d with | .tup [a, b, c] => (Dec.dec a).bind fun x => (Dec.dec b).bind fun y => (Dec.dec c).bind fun z => some ⟨x, y, z⟩ | _ => none, fun d x e => by
  split at e
  · obtain ⟨u, e1, e⟩ := Option.bind_eq_some_iff.mp e
    obtain ⟨w, e2, e⟩ := Option.bind_eq_some_iff.mp e
    obtain ⟨w2, e3, e⟩ := Option.bind_eq_some_iff.mp e
    cases Option.some.inj e
    rw [Dec.ok _ _ e1, Dec.ok _ _ e2, Dec.ok _ _ e3]
    rfl
  · cases e⟩
def decs {α : Type} [Enc α] [Dec α] : List D → Option (List α)
  | [] => some []
  | d :: ds => (Dec.dec d).bind fun x => (decs ds).bind fun xs => some (x :: xs)
theorem decs_ok {α : Type} [Enc α] [Dec α] : ∀ (ds : List D) (l : List α), decs ds = some l → ds = l.map enc
  | [], l, e => by cases Option.some.inj e; rfl
  | d :: ds, l, e => by
    obtain ⟨u, e1, e⟩ := Option.bind_eq_some_iff.mp e
    obtain ⟨w, e2, e⟩ := Option.bind_eq_some_iff.mp e
    cases Option.some.inj e
    rw [Dec.ok _ _ e1, decs_ok _ _ e2]
    rfl
instance {α : Type} [Enc α] [Dec α] : Dec (List α) := ⟨fun d => match d with | .lst ds => decs ds | _ => none, fun d x e => by
  split at e
  · rw [decs_ok _ _ e]; rfl
  · cases e⟩
def asD (α : Type) [Enc α] [Dec α] (d : D) : Res α := match Dec.dec d with | some x => .ok x | none => .stuck
theorem Post.asD {α β : Type} [Enc α] [Dec α] {d : D} {k : α → Res β} {P : β → Prop} {R : Err → Prop} (h : Post ((Y.asD α d).bind k) P R) : ∃ x, d = enc x ∧ Post (k x) P R := by
  unfold Y.asD at h
  cases e : Dec.dec (α := α) d with
  | none => rw [e] at h; exact h.elim
  | some x => rw [e] at h; exact ⟨x, Dec.ok _ _ e, h⟩
/-- what is there -/
def someR {α : Type} (o : Option α) : Res α := match o with | some x => .ok x | none => .stuck
theorem Post.some {α β : Type} {o : Option α} {k : α → Res β} {P : β → Prop} {R : Err → Prop} (h : Post ((someR o).bind k) P R) : ∃ x, o = Option.some x ∧ Post (k x) P R := by
  cases o with
  | none => exact h.elim
  | some x => exact ⟨x, rfl, h⟩
/-- a constant of the module: data that is written out -/
structure CT {α : Type} [Enc α] (K : PySem.W.Frag) (mg : Str → Option Value) (nm : Str) (C : Addr) (x : α) : Prop where
  g : mg nm = Option.some (.ref C)
  rep : ∀ B, Rep K B (.ref C) (enc x)
/-! ### defs that hand a new list back; l.pop() -/
def RetF (K : PySem.W.Frag) (W : List Addr) (B H : Hp) (ds : List D) (Q : VK) : Prop := ∀ p B' H', Stp W B H B' H' → H p = none → Mu K B' H' p ds → Q (.ref p) H'
def RetMF (K : PySem.W.Frag) (q : Addr) (B H : Hp) (ds es : List D) (Q : VK) : Prop := ∀ p B' H', Stp [q] B H B' H' → H p = none → Mu K B' H' p ds → Mu K B' H' q es → Q (.ref p) H'
def popE {α : Type} (l : List α) : Res (α × List α) := match l[l.length - 1]? with | some x => .ok (x, l.dropLast) | none => .stuck
theorem Post.popE {α β : Type} {l : List α} {k : α × List α → Res β} {P : β → Prop} {R : Err → Prop} (h : Post ((Y.popE l).bind k) P R) : ∃ x, l[l.length - 1]? = Option.some x ∧ Post (k (x, l.dropLast)) P R := by
  unfold Y.popE at h
  cases e : l[l.length - 1]? with
  | none => rw [e] at h; exact h.elim
  | some x => rw [e] at h; exact ⟨x, rfl, h⟩
section
variable {K : PySem.W.Frag} {B H : Hp} {Q : VK} {p : Addr} {xs : List V}
theorem RepL.dropLast : ∀ {xs : List V} {ds : List D}, RepL K B xs ds → RepL K B xs.dropLast ds.dropLast
  | _, _, .nil => .nil
  | _, _, .cons _ .nil => .nil
  | _, _, .cons h (.cons h2 t) => .cons h (RepL.dropLast (.cons h2 t))
theorem h_popE {α : Type} [Enc α] {l : List α} {b : α} (w : Ex B H) (m : Mu K B H p (l.map enc)) (hb : l[l.length - 1]? = some b)
    (h : ∀ y H', Stp [p] B H B H' → Mu K B H' p (l.dropLast.map enc) → Rep K B y (enc b) → Q y H') : rPop (.ref p) [] H Q := by
  obtain ⟨hb0, xs, hp, hr⟩ := id m
  have hl : xs.length = l.length := by rw [hr.length, List.length_map]
  obtain ⟨u, hu, ru⟩ := hr.get (i := l.length - 1) (d := enc b) (by rw [List.getElem?_map, hb]; rfl)
  have rl : RepL K B xs.dropLast (l.dropLast.map enc) := by
    rw [List.map_dropLast]
    exact RepL.dropLast hr
  obtain ⟨s, m'⟩ := Stp.mut w m rl
  exact ⟨p, xs, u, rfl, rfl, hp, by rw [hl]; exact hu, h _ _ s m' ru⟩
end
end Y

set_option Elab.async false
set_option linter.all false
set_option maxRecDepth 100000
set_option maxHeartbeats 2000000
namespace Y
open PySem PySem.Spec PyProof.Rows
open L2
open Enc (enc)
/-! # more readings: max of two, insert, enumerate -/
theorem h_fr {t : TS} {D' : Ends} {σ σ' : L2.St} {H : Hp} (e : σ = σ') (h : t D' σ' H) : t D' σ H := by rw [e]; exact h
def maxI (i j : Int) : Int := if j > i then j else i
def rMaxY : List V → Hp → VK → Prop := fun xs H Q => ∃ i j, xs = [.int i, .int j] ∧ Q (.int (if j > i then j else i)) H
theorem cr_max {X : Cx} (hc : X.calm = true) : CallR X (.builtin "max") rMaxY := call_max2 hc
theorem h_max {i j : Int} {H : Hp} {Q : VK} (h : Q (.int (maxI i j)) H) : rMaxY [.int i, .int j] H Q := ⟨i, j, rfl, h⟩
def rInsY : V → List V → Hp → VK → Prop := fun x vs H Q => ∃ (l : Addr) (xs : List V) (i : Int) (y : V), x = .ref l ∧ vs = [.int i, y] ∧ H l = some (.lst xs) ∧ xs.length < sizeLine ∧ 0 ≤ i ∧ i < 2 ^ 63 ∧ Q .non (upd H l (.lst (xs.take i.toNat ++ [y] ++ xs.drop i.toNat)))
theorem mt_insY {X : Cx} : MtR X "list.insert" rInsY := mt_insert
def insL {α : Type} (l : List α) (i : Int) (b : α) : List α := l.take i.toNat ++ [b] ++ l.drop i.toNat
section
variable {K : PySem.W.Frag} {B B' H H' : Hp} {Q : VK} {p : Addr} {y : V} {i : Int}
theorem h_insert {α : Type} [Enc α] {l : List α} {b : α} (w : Ex B H) (m : Mu K B H p (l.map enc)) (ry : Rep K B y (enc b)) (hz : l.length < 1000000 ∧ 0 ≤ i ∧ i < 2 ^ 63) (h : ∀ H', Stp [p] B H B H' → Mu K B H' p ((insL l i b).map enc) → Q .non H') : rInsY (.ref p) [.int i, y] H Q := by
  obtain ⟨hb, xs, hp, hr⟩ := id m
  refine ⟨p, xs, i, y, rfl, rfl, hp, by rw [hr.length, List.length_map]; exact Nat.lt_of_lt_of_le hz.1 (by decide), hz.2.1, hz.2.2, ?_⟩
  have rl : RepL K B (xs.take i.toNat ++ [y] ++ xs.drop i.toNat) ((insL l i b).map enc) := by
    unfold insL
    rw [List.map_append, List.map_append, List.map_take, List.map_drop]
    exact ((hr.take _).append (.cons ry .nil)).append (hr.drop _)
  obtain ⟨s, m'⟩ := Stp.mut w m rl
  exact h _ s m'
end
/-- the things with their places -/
def enumL {α : Type} (l : List α) : List (Tp2 Int α) := l.mapIdx fun i x => ⟨(i : Int), x⟩
def En (K : PySem.W.Frag) (vs : List V) (g : TG) (tb : TS) (D' : Ends) (σ : L2.St) (H : Hp) : Prop := tFor (iEnum K (fun _ H Q => Q vs H)) g tb D' σ H
section
variable {K : PySem.W.Frag} {σ : L2.St} {B H : Hp} {p : Addr} {xs : List V} {tb : TS} {D' : Ends} {g : TG} {α β S : Type} {P : β → Prop} {R : Err → Prop}
theorem h_enumE {ta : TA} (h : ta σ H fun vs H1 => En K vs g tb D' σ H1) : tFor (iEnum K ta) g tb D' σ H := h
theorem h_forEn [Enc α] {l : List α} {s0 : S} {f : Tp2 Int α → S → Res (Fl S β)} {k : S → Res β} (hP : Post ((forR (enumL l) s0 f).bind (afterR k)) P R) (hs : SqL K H p xs) (hr : RepL K B xs (l.map enc))
    (J : S → L2.St → Hp → Prop) (h0 : J s0 σ H) (hl : ∀ s σ' H', J s σ' H' → SqL K H' p xs)
    (hb : ∀ (N : L2.St → Hp → Prop) (T : Fl S β → Prop) (x : Tp2 Int α) u s σ' H', J s σ' H' → Rep K B u (enc x.b) → (∀ s' σ2 H2, J s' σ2 H2 → T (.nx s') → N σ2 H2) → (∀ r, T (.rt r) → P r) → (∀ s' σ2 H2, J s' σ2 H2 → T (.bk s') → D'.nx σ2 H2) → Post (f x s) T R →
      NewT [.int x.a, u] H' fun v H1 => g v σ' H1 fun σ2 H2 => tb { D' with nx := N, ct := N, bk := D'.nx } σ2 H2)
    (hd : ∀ s σ' H', J s σ' H' → Post (k s) P R → D'.nx σ' H') : En K [.ref p] g tb D' σ H := by
  refine ⟨p, xs, rfl, hs, for_it (n := xs.length) walk_enum (fun i σ' H' => ∃ s, J s σ' H' ∧ Post (forR ((enumL l).drop i) s f) (fun a => Post (afterR k a) P R) R) ⟨s0, h0, hP.bind⟩ (fun i σ' H' _ ⟨s, j, _⟩ => hl s σ' H' j) ?_ ?_⟩
  · rintro i v σ' H' H2 hi ⟨s, j, q⟩ ⟨T, y1, y2, rfl, hT, rfl, h1, h2⟩
    cases Option.some.inj h1
    have hll : xs.length = l.length := by rw [hr.length, List.length_map]
    have hil : i < l.length := by omega
    have hx : (enumL l)[i]? = some ⟨(i : Int), l[i]⟩ := by
      unfold enumL
      rw [List.getElem?_mapIdx, List.getElem?_eq_getElem hil]
      rfl
    obtain ⟨u, hu, ru⟩ := hr.get (i := i) (d := enc l[i]) (by rw [List.getElem?_map, List.getElem?_eq_getElem hil]; rfl)
    have h2 : xs[i]? = some y2 := h2
    rw [h2] at hu; cases hu
    exact (hb _ _ ⟨(i : Int), l[i]⟩ y2 s σ' H' j ru (fun s' σ2 H2 j2 t2 => ⟨s', j2, t2⟩) (fun r t2 => (t2 : Post (.ok r) P R).ok) (fun s' σ2 H2 j2 t2 => hd s' σ2 H2 j2 t2) (q.turn hx)).2 T hT
  · rintro σ' H' ⟨s, j, q⟩
    exact hd s σ' H' j (q.forN (by unfold enumL; rw [List.length_mapIdx, hr.length, List.length_map]; exact Nat.le_refl _))
end
end Y

set_option Elab.async false
set_option linter.all false
set_option maxRecDepth 100000
set_option maxHeartbeats 4000000
namespace Y
open PySem PySem.Spec PyProof.Rows
open L2
/-! # a try whose clauses may each have a name -/
/-- a clause: what it names, the slot of its name, its suite's reading -/
structure Cl where
  c : Value
  nm : Option Nat
  ts : Addr → Value → Option Addr → TS
def Cl.ends (k : Cl) (D : Ends) : Ends := match k.nm with
  | none => D
  | some i => ⟨fun σ H => D.nx (σ.set i none) H, D.rt, fun σ H => D.bk (σ.set i none) H, fun σ H => D.ct (σ.set i none) H⟩
def Cl.slots (k : Cl) (σ : L2.St) (a : Addr) : L2.St := match k.nm with | none => σ | some i => σ.set i (some (.ref a))
def wMix (K : PySem.W.Frag) (Wout : WX) (D : Ends) : List Cl → WX
  | [] => Wout
  | k :: r => fun cls d σ H => ∃ b, PySem.W.exmOne K cls k.c = some b ∧ (b = true → ∀ a, H a = none → k.ts a cls d (k.ends D) (k.slots σ a) H) ∧ (b = false → wMix K Wout D r cls d σ H)
abbrev SuOk (X : Cx) (b₀ : Stmt) (su : List Stmt) (ts : Addr → Value → Option Addr → TS) : Prop :=
  ∀ (a : Addr) (oe : Obj) (cls : Value) (d : Option Addr) (pn : List (Addr × Obj)), Zc cls d oe → (∃ vs, oe.data = .fields vs) → PSs (X.suite a ((a, oe) :: pn)) (b₀ :: su) (ts a cls d)
inductive Mix (X : Cx) : List ExceptHandler → List Cl → Prop
  | nil : Mix X [] []
  | plain {x : Str} {c : Value} {ts : Addr → Value → Option Addr → TS} {b₀ : Stmt} {su : List Stmt} {p q : Pos} {hs : List ExceptHandler} {ks : List Cl}
      (hc : Names X x c) (hsu : SuOk X b₀ su ts) (r : Mix X hs ks) : Mix X (.ExceptHandler (some (.Name x p)) none (b₀ :: su) q :: hs) (⟨c, none, ts⟩ :: ks)
  | named {x n : Str} {i : Nat} {c : Value} {ts : Addr → Value → Option Addr → TS} {b₀ : Stmt} {su : List Stmt} {p q : Pos} {hs : List ExceptHandler} {ks : List Cl}
      (hN : X.N.Nodup) (hi : X.N[i]? = some n) (hl : X.env.kindOf n = some .local) (hc : Names X x c) (hsu : SuOk X b₀ su ts) (r : Mix X hs ks) : Mix X (.ExceptHandler (some (.Name x p)) (some n) (b₀ :: su) q :: hs) (⟨c, some i, ts⟩ :: ks)
/-- the exception is in flight here: what was known ahead of it -/
structure Fly (X : Cx) (a : Addr) (B : Heap) (sI s1 : Shared) (pins : List (Addr × Obj)) (σ : L2.St) (H : Hp) (cls : Value) (d : Option Addr) (h : Heap) : Prop where
  J : Inv X pins σ H sI
  nb : ∀ b o, sI.heap.get? b = some o → b ∉ frs X.stack → B.get? b = some o
  up : sI.heap.UpToSlots h
  na : H a = none
  os : s1.os = sI.os
  ag : AllBare s1.gens
  fl : HandSPX.FlyingZ B (X.env :: X.outer) a (Zc cls d) h
section
variable {X : Cx} {a : Addr} {B : Heap} {sI s1 : Shared} {pins : List (Addr × Obj)} {σ : L2.St} {H : Hp} {cls : Value} {d : Option Addr} {h : Heap}
theorem Fly.inv (F : Fly X a B sI s1 pins σ H cls d h) : Inv X pins σ H { s1 with heap := h } := F.J.landed F.nb F.fl.1 F.up F.os F.ag
theorem Fly.apart (F : Fly X a B sI s1 pins σ H cls d h) (hf : X.env.frame = some X.env.locals) (hs : X.stack = X.env :: X.outer) : a ≠ X.env.locals ∧ a ∉ X.fs := by
  obtain ⟨oe, vs, he, hz, hd⟩ := F.fl.there
  have key : ∀ e ∈ X.env :: X.outer, e.frame ≠ some a := fun e me q => by
    obtain ⟨_, o, ho, hn⟩ := F.fl.2.2.1.mem (List.mem_filterMap.mpr ⟨e, me, q⟩)
    rw [he] at ho
    cases ho
    exact hn _ hd
  exact ⟨fun z => key X.env List.mem_cons_self (by rw [hf, z]), fun m => by
    obtain ⟨e, me, q⟩ := List.mem_filterMap.mp m
    exact key e (List.mem_cons_of_mem _ me) q⟩
end
section
variable {X : Cx} {body : List Stmt} {h₀ : ExceptHandler} {hds : List ExceptHandler} {ks : List Cl} {pos : Pos} {tb : WX → TS} {Wout : WX}
/-- none of the clauses is right: it goes on -/
theorem fly_on {a : Addr} {B : Heap} {sI s1 : Shared} {pins : List (Addr × Obj)} {σ : L2.St} {H : Hp} {cls : Value} {d : Option Addr} {h : Heap} {Q : Flow → Shared → Prop} (hs : X.stack = X.env :: X.outer) (hf : X.env.frame = some X.env.locals) (tk : Takes X Wout)
    (F : Fly X a B sI s1 pins σ H cls d h) (w : Wout cls d σ H) : wpAny (model X.prog X.w) X.A (handleBy (.ref a) X.env []) Q X.xe { s1 with heap := h } := by
  apply wpAny_handleBy_nil
  have fl := F.fl
  obtain ⟨_, _, _, oe, vs, T, oT, tsl, he, hz, hd, h1, hr⟩ := fl
  have up1 : wpAny (model X.prog X.w) X.A (setFlight (.ref a) X.env.frame) (fun _ z => wpAny (model X.prog X.w) X.A (throw (.ref a) : Sem Flow) Q X.xe z) X.xe { s1 with heap := h } := by
    rw [hf]
    apply HandSPX.setFlight_upZ F.fl
    intro k hk uk
    apply wpAny_throw
    exact tk _ _ ⟨a, B, sI, pins, σ, H, cls, d, rfl, F.J, F.nb, F.up.trans uk, .inr (.inr (by rw [hs]; exact hk)), F.na, F.os, F.ag, w⟩
  unfold PySem.passOn
  apply wpAny_bind
  apply wpAny_field he hd h1
  rw [if_neg (show ¬ ((Value.ref T == Value.none) = true) from by simp)]
  first
    | exact wpAny_bind (wpAny_pure (wpAny_bind up1))
    | exact wpAny_bind up1
theorem fly_mix {a : Addr} {B : Heap} {sI s1 : Shared} {pins : List (Addr × Obj)} {σ : L2.St} {H : Hp} {cls : Value} {d : Option Addr} {h : Heap} {D : Ends} (hs : X.stack = X.env :: X.outer) (hf : X.env.frame = some X.env.locals) (tk : Takes X Wout) (ok : X.Ok)
    (F : Fly X a B sI s1 pins σ H cls d h) : ∀ {hds : List ExceptHandler} {ks : List Cl}, Mix X hds ks → wMix X.K Wout D ks cls d σ H → wpAny (model X.prog X.w) X.A (handleBy (.ref a) X.env hds) (SP X pins D) X.xe { s1 with heap := h } := by
  intro hds ks M
  obtain ⟨oe, vs, he, hz, hd⟩ := F.fl.there
  obtain ⟨nL, nF⟩ := F.apart hf hs
  have S := F.inv.suite he hd F.na nL nF
  have LT : PySem.W.Looks (model X.prog X.w) h (typeOf (.ref a)) cls := fun A Q E s k q => wpAny_typeOf_ref (k _ _ he) (by rw [hz.1]; exact q)
  have named : ∀ {x : Str} {c : Value} {np : Pos}, Names X x c → ∀ {Q E : Value → Shared → Prop}, Q c { s1 with heap := h } → wpAny (model X.prog X.w) (X.A.mark (some (.ref a))) (eval (.Name x np) X.env) Q E { s1 with heap := h } := by
    intro x c np hc Q E q
    rcases hc with ⟨g, db, g2 | ⟨g2, g3, g4⟩⟩
    · exact ld_glob (X := X.suite a ((a, oe) :: (X.pn ++ pins))) S g g2 q db
    · exact ld_blt (X := X.suite a ((a, oe) :: (X.pn ++ pins))) S g g2 g3 q g4 db
  induction M with
  | nil => exact fun w => fly_on hs hf tk F w
  | @plain x c ts b₀ su p q hs' ks' hc hsu r ih =>
    rintro ⟨b, hb, yes, no⟩
    apply wpAny_handleBy_cons (codeAny_handlers_test ?_) (by intro z; cases z)
    apply named hc
    apply (PySem.W.exm_one (M := model X.prog X.w) F.inv.kIn LT hb).here
    cases b
    · exact ih (no rfl)
    · apply codeAny_handlers_suite
      apply HandSPX.lands_againZ F.fl
      intro k fk uk
      have F' : Fly X a B sI s1 pins σ H cls d k := ⟨F.J, F.nb, F.up.trans uk, F.na, F.os, F.ag, fk⟩
      obtain ⟨oe', vs', he', hz', hd'⟩ := fk.there
      have S' := F'.inv.suite he' hd' F.na nL nF
      apply wpAny_mono ((hsu a oe' cls d (X.pn ++ pins) hz' ⟨_, hd'⟩).run [] _ _ H _ S' (yes rfl a F.na)) ?_ (fun _ _ z => z.elim)
      intro f t ht
      cases f <;> obtain ⟨σ6, ht⟩ := ht
      case ret => obtain ⟨σ7, H7, S7, r7, q7⟩ := ht; exact ⟨_, _, _, S7.unsuite ok, r7, q7⟩
      all_goals (obtain ⟨H6, S6, q6⟩ := ht; exact ⟨_, _, S6.unsuite ok, q6⟩)
  | @named x n i c ts b₀ su p q hs' ks' hN hi hl hc hsu r ih =>
    rintro ⟨b, hb, yes, no⟩
    apply wpAny_handleBy_cons (codeAny_handlers_test ?_) (by intro z; cases z)
    apply named hc
    apply (PySem.W.exm_one (M := model X.prog X.w) F.inv.kIn LT hb).here
    cases b
    · exact ih (no rfl)
    · apply codeAny_handlers_suite_as
      apply HandSPX.lands_againZ F.fl
      intro k fk uk
      have F' : Fly X a B sI s1 pins σ H cls d k := ⟨F.J, F.nb, F.up.trans uk, F.na, F.os, F.ag, fk⟩
      obtain ⟨oe', vs', he', hz', hd'⟩ := fk.there
      have S' := F'.inv.suite he' hd' F.na nL nF
      have hx : Loc X.env.scope n := .inl hl
      refine store_ok (X := X.suite a ((a, oe') :: (X.pn ++ pins))) (v := .ref a) S' hN hi hx rfl (fun t2 T2 => ?_) (.inr hl)
      apply wpAny_mono ((hsu a oe' cls d (X.pn ++ pins) hz' ⟨_, hd'⟩).run [] t2 _ H _ T2 (yes rfl a F.na)) ?_ (fun _ _ z => z.elim)
      intro f t ht
      have leave : ∀ {σ6 : L2.St} {H6 : Hp} {Q : Shared → Prop}, Inv (X.suite a ((a, oe') :: (X.pn ++ pins))) [] σ6 H6 t → (∀ t7, Inv X pins (σ6.set i none) H6 t7 → Q t7) →
          wpAny (model X.prog X.w) X.A (do bindName X.env n .none; unbindBehindTheSuite X.env n q) (fun _ t7 => Q t7) X.xe t := fun S6 hq => gone_ok (S6.unsuite ok) hN hi hl hq
      cases f <;> obtain ⟨σ6, ht⟩ := ht
      case ret => obtain ⟨σ7, H7, S7, r7, q7⟩ := ht; exact leave S7 fun t7 J7 => ⟨_, _, _, J7, r7, q7⟩
      all_goals (obtain ⟨H6, S6, q6⟩ := ht; exact leave S6 fun t7 J7 => ⟨_, _, J7, q6⟩)
def tTryM (K : PySem.W.Frag) (ks : List Cl) (Wout : WX) (tb : WX → TS) : TS := fun D σ H => tb (wMix K Wout D ks) D σ H
theorem ps_tryM {K : PySem.W.Frag} (hs : X.stack = X.env :: X.outer) (hf : X.env.frame = some X.env.locals) (tk : Takes X Wout)
    (hb : ∀ (W : WX) (pn : List (Addr × Obj)) (xe : Value → Shared → Prop), Takes (X.tr pn xe) W → PassesOwn (model X.prog X.w) X.A X.env xe → PSs (X.tr pn xe) body (tb W))
    (M : Mix X (h₀ :: hds) ks) (hK : X.K = K := by rfl) : PS X (.Try body (h₀ :: hds) [] [] pos) (tTryM K ks Wout tb) := by
  subst hK
  refine ⟨fun pins s σ H D I h => ?_⟩
  have ok := I.ok
  have hfr : X.A.frames = some (X.env :: X.outer) := by rw [ok.frames, hs]
  apply wpAny_Try_except
  refine wpAny_mono ((hb (wMix X.K Wout D ks) (X.pn ++ pins) _ ?_ PassesOwn.looking).run [] s σ H D (I.toTry _) h) ?_ (fun e t he => he)
  · intro u t xx
    obtain ⟨a, B, sI, pins', σ', H', cls, d, rfl, J', nb, up, sky, na, os, ag, w⟩ := xx
    rw [show (X.tr (X.pn ++ pins) _).stack = X.env :: X.outer from hs] at sky
    refine Sky.land Zc.steady hfr hf sky fun k fk uk => ?_
    exact fly_mix hs hf tk ok (D := D) ⟨J'.ofTry ok, nb, up.trans uk, na, os, ag, fk⟩ M w
  · intro f t ht
    cases f
    case ret => obtain ⟨v, σ', H', J', r, q⟩ := ht; exact ⟨v, σ', H', J'.ofTry ok, r, q⟩
    case next => obtain ⟨σ', H', J', q⟩ := ht; exact wpAny_execs_nil ⟨σ', H', J'.ofTry ok, q⟩
    all_goals (obtain ⟨σ', H', J', q⟩ := ht; exact ⟨σ', H', J'.ofTry ok, q⟩)
end

/-! ## isinstance of the exception, several classes -/
def rIsET (K : PySem.W.Frag) (D a : Addr) : List V → Hp → VK → Prop := fun xs H Q => ∃ (tp : Addr) (cs : List V) (us : List Value) (b : Bool), xs = [.ref a, .ref tp] ∧ H tp = some (.tup cs) ∧ Paired ClsV cs us ∧ PySem.W.kitAny K (.ref D) us = some b ∧ Q (.bl b) H
theorem call_isET {X : Cx} {a D : Addr} {oe : Obj} {pn : List (Addr × Obj)} (C : ExcC X.K D) (hz : Zc (.ref D) none oe) (hf : ∃ vs, oe.data = .fields vs) : CallR (X.suite a ((a, oe) :: pn)) (.builtin "isinstance") (rIsET X.K D a) := by
  rintro pins s σ H _ us Q I r ⟨tp, cs, ws, b, rfl, hT, k, e, q⟩
  obtain ⟨u1, u2, rfl, r1, r2⟩ := r.two
  cases (show u1 = Value.ref a from r1)
  cases (show u2 = Value.ref tp from r2)
  have hget := (I.pin (a, oe) (List.mem_append.mpr (.inl List.mem_cons_self))).1
  obtain ⟨vs, hv⟩ := hf
  obtain ⟨h1, h2⟩ := hz
  obtain ⟨c0, d0, dt0, sl0⟩ := oe
  dsimp only at h1 h2 hv
  subst h1 h2 hv
  have J : PySem.W.InstAt s.heap a ⟨.ref D, none, .fields vs, sl0⟩ D none := ⟨hget, rfl, rfl, trivial⟩
  obtain ⟨_, its, rv, o, g1, g2, n, g3⟩ := (show ObjOk X.prog X.w H s.heap tp (.tup cs) from I.hok tp _ hT)
  have e3 := ClsV.all k rv
  subst e3
  obtain ⟨oc, od, dt, sl⟩ := o
  dsimp only at g2 g3
  subst g2 g3
  exact PySem.W.kia_tup (PySem.W.handS_kitx_exc C.hg C.hk C.hs C.hd C.ha C.hn C.ht C.hm) I.kIn J g1 e (fun z => nomatch z) fun tk => ⟨.bl b, H, I.kept (t' := tk) fun _ _ z => z, rfl, q⟩
def tIsET (K : PySem.W.Frag) (a : Addr) (cls : Value) (d : Option Addr) (targs : TA) : TE := fun σ H Q => ∃ Dc, cls = .ref Dc ∧ d = none ∧ ExcC K Dc ∧ tCB (rIsET K Dc a) targs σ H Q
section
variable {K : PySem.W.Frag} {σ : L2.St} {B H : Hp} {Q : VK} {D' : Ends} {Wout : WX} {k : Cl} {r : List Cl} {mg : Str → Option Value} {nm : Str}
theorem pe_isET {X : Cx} {e : Expr} {a : Addr} {cls : Value} {d : Option Addr} {targs : TA} (hK : X.K = K) (h : ∀ Dc, cls = .ref Dc → d = none → ExcC K Dc → PE X e (tCB (rIsET K Dc a) targs)) : PE X e (tIsET K a cls d targs) :=
  ⟨fun pins s σ H Q I q => by
    obtain ⟨Dc, e1, e2, ec, q⟩ := q
    exact (h Dc e1 e2 ec).run pins s σ H Q I q⟩
theorem h_isET {a C : Addr} {targs : TA} (T : ExcT K mg nm C) (h : targs σ H fun vs H1 => rIsET K C a vs H1 Q) : tIsET K a (.ref C) none targs σ H Q := ⟨C, rfl, rfl, T.ec, h⟩
theorem kitA_nil {t : Value} : PySem.W.kitAny K t [] = some false := rfl
theorem kitA_f {t c : Value} {r : List Value} {b : Bool} (h : PySem.W.kitOne K t c = some false) (hr : PySem.W.kitAny K t r = some b) : PySem.W.kitAny K t (c :: r) = some b := by
  unfold PySem.W.kitAny
  rw [h]
  exact hr
theorem kitA_t {t c : Value} {r : List Value} (h : PySem.W.kitOne K t c = some true) : PySem.W.kitAny K t (c :: r) = some true := by
  unfold PySem.W.kitAny
  rw [h]
/-- a tuple of classes that was just laid -/
theorem h_clsTup {xs : List V} (w : Ex B H) (hn : xs.length ≤ sizeLine) (h : ∀ p, Stp [] B H B (upd H p (.tup xs)) → Q (.ref p) (upd H p (.tup xs))) : NewT xs H Q := ⟨hn, fun p hp => h p (Stp.newM w hp)⟩
theorem h_isETR {a C tp : Addr} {xs : List V} {us : List Value} {b : Bool} (hp : Paired ClsV xs us) (e : PySem.W.kitAny K (.ref C) us = some b) (q : Q (.bl b) (upd H tp (.tup xs))) : rIsET K C a [.ref a, .ref tp] (upd H tp (.tup xs)) Q := ⟨tp, xs, us, b, rfl, upd_same, hp, e, q⟩
/-- the clause meets the error -/
theorem h_mixHitA {C S' : Addr} {i : Nat} {ts : Addr → Value → Option Addr → TS} (T : ExcT K mg nm S') (hs : PySem.W.subIn K (.ref C) (.ref S') = some true)
    (h : ∀ a, H a = none → ts a (.ref C) none ⟨fun σ H => D'.nx (σ.set i none) H, D'.rt, fun σ H => D'.bk (σ.set i none) H, fun σ H => D'.ct (σ.set i none) H⟩ (σ.set i (some (.ref a))) H) : wMix K Wout D' (⟨.ref S', some i, ts⟩ :: r) (.ref C) none σ H :=
  ⟨true, T.exm hs, fun _ a ha => h a ha, fun q => nomatch q⟩
theorem h_mixHitO {C S' : Addr} {ts : Addr → Value → Option Addr → TS} (T : ExcT K mg nm S') (hs : PySem.W.subIn K (.ref C) (.ref S') = some true)
    (h : ∀ a, H a = none → ts a (.ref C) none D' σ H) : wMix K Wout D' (⟨.ref S', none, ts⟩ :: r) (.ref C) none σ H :=
  ⟨true, T.exm hs, fun _ a ha => h a ha, fun q => nomatch q⟩
theorem h_mixSkip {C S' : Addr} (hc : k.c = .ref S') (T : ExcT K mg nm S') (hs : PySem.W.subIn K (.ref C) (.ref S') = some false) (h : wMix K Wout D' r (.ref C) none σ H) : wMix K Wout D' (k :: r) (.ref C) none σ H :=
  ⟨false, by rw [hc]; exact T.exm hs, (fun q => nomatch q), fun _ => h⟩
theorem h_tryM {ks : List Cl} {tb : WX → TS} (h : tb (wMix K Wout D' ks) D' σ H) : tTryM K ks Wout tb D' σ H := h
end

/-! ## a list of lists of our own -/
def Raw (B H : Hp) (p : Addr) (xs : List V) : Prop := B p = none ∧ H p = some (.lst xs)
section
variable {K : PySem.W.Frag} {B B' H H' : Hp} {W : List Addr} {p q : Addr} {xs : List V} {Q : VK} {d e : D} {v u : V}
theorem Raw.step (m : Raw B H p xs) (s : Stp W B H B' H') (h : p ∉ W) : Raw B' H' p xs := ⟨s.nw p _ m.1 m.2, s.fr p _ h m.2⟩
theorem Raw.ne (m : Raw B H p xs) (h : H q = none) : p ≠ q := ne_of_none m.2 h
theorem Raw.kp {r : Addr} (m : Raw B H q xs) (_ : Ex B B') (k : ∀ q, q ≠ r → B q = none → B' q = none) (n : q ≠ r) : Raw B' H q xs := ⟨k q n m.1, m.2⟩
theorem Raw.sq (m : Raw B H p xs) : SqL K H p xs := SqL.of m.2
theorem h_newRaw (w : Ex B H) (hn : xs.length ≤ sizeLine) (h : ∀ p H', H p = none → Stp [] B H B H' → Raw B H' p xs → Q (.ref p) H') : NewL xs H Q := ⟨hn, fun p hp => h p _ hp (Stp.newM w hp) ⟨w.none hp, upd_same⟩⟩
theorem Cmp.pair (s : SqL K H p [v, u]) (h : Cmp K H v d) (h' : Cmp K H u e) : Cmp K H (.ref p) (.lst [d, e]) := fun f => by
  have f' : (flatD d && (flatD e && true)) = true := f
  simp only [Bool.and_true, Bool.and_eq_true] at f'
  exact .lst s (.cons (h f'.1) (.cons (h' f'.2) .nil))
end
end Y

/-! # a local name that holds a def -/
namespace Y
open PySem PySem.Spec PyProof.Rows
open L2
section
variable {X : Cx} {CX : CXT} {k : Nat} {f : Addr} {fd : FuncData} {ps : List Str} {sp : Sp} {dvs : List V} {ds : List Value} {E : L2.St → XK} {x : Str} {p pos : Pos} {e : Expr} {es : List Expr} {t tl : TA}
def tCallLS (i : Nat) (f : Addr) (sp : Sp) (dvs : List V) (E : L2.St → XK) (t : TA) : TE := fun σ H Q => σ[i]? = some (some (.ref f)) ∧ t σ H fun vs H1 => sp (vs ++ dvs) H1 Q (E σ)
theorem atOf {E : XK} (h : Passes CX X E) : ∀ σ, PassesAt CX X σ ((fun _ : L2.St => E) σ) := fun σ pins H s e s' I c => h pins σ H s e s' I c
theorem pe_callLS (i : Nat) (F : FnOk X.prog X.w X.K X.mg X.base CX k f fd ps sp) (hr : Room k X.A) (hk : PySem.W.keepIn X.K (.ref f) = true) (hb : L2.Binds X.K fd ps ds) (hd : Vals dvs ds) (hx : ∀ σ, PassesAt CX X σ (E σ)) (ha : PA X (e :: es) t)
    (hN : X.N[i]? = some x := by rfl) (hv : Vis X.env.scope x := by first | exact Or.inl rfl | exact Or.inr (Or.inl rfl) | exact Or.inr (Or.inr rfl))
    (hdb : (x == ("__debug__" : Str)) = false := by decide) (hcd : (x == ("__classdict__" : Str)) = false := by decide)
    (he : starEach (e :: es) X.env = (false, eval e X.env) :: starEach es X.env := by rfl) (hpl : (backTo pos (starEach es X.env)).any (·.1) = false := by rfl) : PE X (.Call (.Name x p) (e :: es) [] pos) (tCallLS i f sp dvs E t) := by
  refine ⟨fun pins s σ H Q I h => ?_⟩
  obtain ⟨hs, ht⟩ := h
  refine wpAny_Call_Name_kw (thn ((pe_var (pos := p) hN hv hdb hcd).run pins s σ H (fun v H1 => v = .ref f ∧ H1 = H) I ⟨.ref f, hs, rfl, rfl⟩) fun u s1 ⟨v, H1, I1, r1, q1⟩ => ?_)
  obtain ⟨rfl, rfl⟩ := q1
  cases r1
  refine PySem.W.callWith_K (h₀ := X.base) I.ok.mod.kin hk (thn (ha.run pos pins s1 σ _ _ I1 ht) fun us s2 ⟨vs, H2, I2, r, q⟩ => ⟨I2.kIn, ?_⟩) he hpl
  exact run_fnSD F hr hb hd (hx σ) I2 r q
theorem h_callLS {i : Nat} {σ : L2.St} {H : Hp} {Q : VK} (hs : σ[i]? = some (some (.ref f))) (h : tl σ H fun vs H1 => sp (vs ++ dvs) H1 Q (E σ)) : tCallLS i f sp dvs E tl σ H Q := ⟨hs, h⟩
end
end Y

set_option Elab.async false
set_option linter.all false
set_option maxRecDepth 100000
set_option maxHeartbeats 4000000
namespace Y
open PySem PySem.Spec PyProof.Rows
open L2
/-! # instances of the text's classes that stay as they are -/
/-- a class of the text, a name of the module -/
structure KI (K : PySem.W.Frag) (mg : Str → Option Value) (nm : Str) (C : Addr) : Prop extends KC K nm C where
  g : mg nm = some (.ref C)
  ty : PySem.W.typeIn K (.ref C) = some (.type "type")
  is : PySem.W.isClsIn K C = true
  self : PySem.W.subIn K (.ref C) (.ref C) = some true
theorem bt_of {K : PySem.W.Frag} {C : Addr} (a : PySem.W.subIn K (.ref C) (.type "bool") = some false) (b : PySem.W.subIn K (.ref C) (.type "int") = some false) (c : PySem.W.subIn K (.ref C) (.type "str") = some false)
    (d : PySem.W.subIn K (.ref C) (.type "list") = some false) (e : PySem.W.subIn K (.ref C) (.type "tuple") = some false) (f : PySem.W.subIn K (.ref C) (.type "dict") = some false) :
    ∀ t ∈ ["bool", "int", "str", "list", "tuple", "dict"], PySem.W.subIn K (.ref C) (.type t) = some false := by
  intro t ht
  simp only [List.mem_cons, List.not_mem_nil, or_false] at ht
  rcases ht with rfl | rfl | rfl | rfl | rfl | rfl
  · exact a
  · exact b
  · exact c
  · exact d
  · exact e
  · exact f
section
variable {K : PySem.W.Frag} {mg : Str → Option Value} {nm nm' f m : Str} {C C' C2 p dx : Addr} {B H B' H' : Hp} {fs : List (Str × V)} {ds : List (Str × D)} {d : D} {v : V} {Q : VK} {b : Bool} {σ : L2.St} {ta : TE} {tab : List (Str × Bool)}
theorem KC.uniq (k : KC K nm C) (k' : KC K nm C') : C = C' := by
  have := k.a.symm.trans k'.a
  cases this
  rfl
theorem KI.kit (T : KI K mg nm C) (h : PySem.W.subIn K (.ref C2) (.ref C) = some b) : PySem.W.kitOne K (.ref C2) (.ref C) = some b := by
  unfold PySem.W.kitOne
  by_cases e : (Value.ref C2 == Value.ref C) = true
  · rw [if_pos e]
    have e2 : C2 = C := Value.ref.inj (beq_iff_eq.mp e)
    subst e2
    exact T.self.symm.trans h
  · rw [if_neg e]
    have h2 : (PySem.W.clsIn K C).isSome = true := T.is
    show (if ((PySem.W.clsIn K C).isSome && PySem.W.typeIn K (.ref C) == some (.type "type")) = true then PySem.W.subIn K (.ref C2) (.ref C) else none) = some b
    rw [if_pos (by rw [h2, T.ty] <;> rfl)]
    exact h
theorem sub_bt (C : Addr) : ∀ s ∈ ["NoneType", "bool", "int", "str", "list", "tuple", "dict"], PySem.W.subIn K (.type s) (.ref C) = some false := by
  intro s hs
  simp only [List.mem_cons, List.not_mem_nil, or_false] at hs
  rcases hs with rfl | rfl | rfl | rfl | rfl | rfl | rfl <;> rfl
theorem KI.kitB (T : KI K mg nm C) {s : String} (hs : s ∈ ["NoneType", "bool", "int", "str", "list", "tuple", "dict"]) : PySem.W.kitOne K (.type s) (.ref C) = some false := by
  unfold PySem.W.kitOne
  rw [if_neg (by simp)]
  have h2 : (PySem.W.clsIn K C).isSome = true := T.is
  show (if ((PySem.W.clsIn K C).isSome && PySem.W.typeIn K (.ref C) == some (.type "type")) = true then PySem.W.subIn K (.type s) (.ref C) else none) = some false
  rw [if_pos (by rw [h2, T.ty] <;> rfl)]
  exact sub_bt C s hs
/-- isinstance(x, an own class): the classes that are known, and whether each is under it -/
def isCR (tab : List (Str × Bool)) (d : D) : Res Bool := match d with
  | .obj nm _ => (match tab.lookup nm with | some b => .ok b | none => .stuck)
  | _ => .ok false
theorem Post.isC {β : Type} {k : Bool → Res β} {P : β → Prop} {R : Err → Prop} (h : Post ((isCR tab d).bind k) P R) : ∃ b, isCR tab d = .ok b ∧ Post (k b) P R := by
  cases e : isCR tab d with
  | ok b => rw [e] at h; exact ⟨b, rfl, h⟩
  | err x =>
    cases d with
    | obj nm ds =>
      have e' : (match tab.lookup nm with | Option.some b => Res.ok b | Option.none => .stuck) = Res.err x := e
      cases q : tab.lookup nm <;> rw [q] at e' <;> exact nomatch e'
    | _ => exact nomatch e
  | stuck => rw [e] at h; exact h.elim
def TabOk (K : PySem.W.Frag) (C : Addr) : List (Str × Bool) → Prop
  | [] => True
  | (nm, b) :: r => (∃ C2, KC K nm C2 ∧ PySem.W.subIn K (.ref C2) (.ref C) = some b) ∧ TabOk K C r
theorem TabOk.get : ∀ {tab : List (Str × Bool)}, TabOk K C tab → tab.lookup nm = some b → ∃ C2, KC K nm C2 ∧ PySem.W.subIn K (.ref C2) (.ref C) = some b
  | [], _, e => nomatch e
  | (x, y) :: r, h, e => by
    have e' : (match nm == x with | true => some y | false => r.lookup nm) = some b := e
    by_cases q : (nm == x) = true
    · rw [q] at e'
      cases e'
      rw [beq_iff_eq.mp q]
      exact h.1
    · rw [Bool.eq_false_iff.mpr q] at e'
      exact TabOk.get h.2 e'
theorem h_isK (w : Ex B H) (r : Rep K B v d) (T : KI K mg nm C) (tb : TabOk K C tab) (e : isCR tab d = .ok b) (q : Q (.bl b) H) : rIsi K [v, .ref C] H Q := by
  by_cases hd : isObjD d = true
  · cases r with
    | @obj p C' dx nm' fs ds h k r =>
      have e' : (match tab.lookup nm' with | some b => Res.ok b | none => .stuck) = Res.ok b := e
      cases l : tab.lookup nm' with
      | none => rw [l] at e'; exact nomatch e'
      | some y =>
        rw [l] at e'
        cases e'
        obtain ⟨C2, k2, hs⟩ := tb.get l
        rw [k2.uniq k] at hs
        exact ⟨_, .ref C, .ref C', .ref C, b, rfl, .own C, k.tyx (w _ _ h), T.kit hs, q⟩
    | _ => exact nomatch hd
  · have hd := Bool.eq_false_iff.mpr hd
    have eb : b = false := by
      cases d with
      | obj nm ds => exact nomatch hd
      | _ => cases e; rfl
    subst eb
    exact ⟨v, .ref C, _, .ref C, false, rfl, .own C, r.ty w hd, T.kitB (tyD_in d hd), q⟩
theorem RepF.get : ∀ {fs : List (Str × V)} {ds : List (Str × D)}, RepF K B fs ds → ds.lookup f = some d → ∃ v, fs.lookup f = some v ∧ Rep K B v d
  | _, _, .nil, e => nomatch e
  | _, _, @RepF.cons _ _ k v d' vs ds h t, e => by
    have e' : (match f == k with | true => some d' | false => ds.lookup f) = some d := e
    show ∃ u, (match f == k with | true => some v | false => vs.lookup f) = some u ∧ _
    cases q : f == k with
    | true =>
      rw [q] at e'
      cases e'
      exact ⟨v, rfl, h⟩
    | false =>
      rw [q] at e'
      exact RepF.get t e'
theorem RepF.none : ∀ {fs : List (Str × V)} {ds : List (Str × D)}, RepF K B fs ds → ds.lookup f = Option.none → fs.lookup f = Option.none
  | _, _, .nil, _ => rfl
  | _, _, @RepF.cons _ _ k v d' vs ds h t, e => by
    have e' : (match f == k with | true => some d' | false => ds.lookup f) = Option.none := e
    show (match f == k with | true => some v | false => vs.lookup f) = Option.none
    cases q : f == k with
    | true => rw [q] at e'; exact nomatch e'
    | false =>
      rw [q] at e'
      exact RepF.none t e'
theorem Rep.ins (w : Ex B H) (r : Rep K B v (.obj nm ds)) (T : KC K nm C) : ∃ p dx fs, v = .ref p ∧ H p = some (.ins C dx fs) ∧ RepF K B fs ds := by
  cases r with
  | @obj p C' dx _ fs _ h k r =>
    have e := T.uniq k
    subst e
    exact ⟨p, dx, fs, rfl, w _ _ h, r⟩
/-! ### a field -/
def Fld (K : PySem.W.Frag) (f : Str) (x : V) (H : Hp) (Q : VK) : Prop := ∃ a C dx fs v, x = .ref a ∧ H a = some (.ins C dx fs) ∧ Cls K C ∧ NoAttr K C f ∧ fs.lookup f = some v ∧ Q v H
theorem h_fldE (h : ta σ H fun x H1 => Fld K f x H1 Q) : tFld K ta f σ H Q := h
theorem h_fld (w : Ex B H) (r : Rep K B v (.obj nm ds)) (T : KC K nm C) (n : NoAttr K C f) (e : ds.lookup f = some d) (h : ∀ u, Rep K B u d → Q u H) : Fld K f v H Q := by
  obtain ⟨p, dx, fs, rfl, hp, rf⟩ := r.ins w T
  obtain ⟨u, hu, ru⟩ := rf.get e
  exact ⟨p, C, dx, fs, u, rfl, hp, T.c, n, hu, h u ru⟩
/-! ### C(..) -/
/-- an __init__ that lays these fields, in this order -/
def LaysOk (K : PySem.W.Frag) (C : Addr) : List Str → Prop
  | [] => True
  | f :: r => NoAttr K C f ∧ LaysOk K C r
def spInit (K : PySem.W.Frag) (ns : List Str) : Sp := fun vs H Q _ => ∃ (C p dx : Addr) (us : List V), vs = .ref p :: us ∧ us.length = ns.length ∧ H p = some (.ins C dx []) ∧ Cls K C ∧ LaysOk K C ns ∧ Q .non (upd H p (.ins C dx (ns.zip us)))
theorem h_made (w : Ex B H) (hp : H p = none) (hx : H dx = none) (ne : dx ≠ p) (T : KC K nm C) (r : RepF K B fs ds) (h : ∀ B' H', Stp [] B H B' H' → Rep K B' (.ref p) (.obj nm ds) → Q (.ref p) H') : Q (.ref p) (upd (upd (upd H dx (.own p)) p (.ins C dx [])) p (.ins C dx fs)) := by
  rw [upd_upd]
  have s1 : Stp [] B H (upd B dx (.own p)) (upd H dx (.own p)) := Stp.new w hx
  have hp' : (upd H dx (.own p)) p = none := by rw [upd_ne ne.symm]; exact hp
  have s2 : Stp [] (upd B dx (.own p)) (upd H dx (.own p)) (upd (upd B dx (.own p)) p (.ins C dx fs)) (upd (upd H dx (.own p)) p (.ins C dx fs)) := Stp.new s1.ok hp'
  exact h _ _ (s1.trans s2) (.obj upd_same T (r.mono (s1.trans s2).ex))
theorem h_make {ns : List Str} {E : XK} {us : List V} (hl : us.length = ns.length) (w : Ex B H) (T : KC K nm C) (lo : LaysOk K C ns) (r : RepF K B (ns.zip us) ds) (h : ∀ p B' H', Stp [] B H B' H' → Rep K B' (.ref p) (.obj nm ds) → Q (.ref p) H') :
    ∀ x dx, H x = none → H dx = none → dx ≠ x → spInit K ns (.ref x :: us) (upd (upd H dx (.own x)) x (.ins C dx [])) (fun v H2 => v = .non ∧ Q (.ref x) H2) E := fun x dx hx hdx ne =>
  ⟨C, x, dx, us, rfl, hl, upd_same, T.c, lo, rfl, h_made w hx hdx ne T r fun B' H' s rr => h x B' H' s rr⟩
end
/-! ### o.m(..) of one of several classes -/
structure MAlt (P : Program) (wo : World) (K : PySem.W.Frag) (mg : Str → Option Value) (base : Heap) (CX : CXT) (k : Nat) (m : Str) (C : Addr) (sp : Sp) : Prop where
  ex : ∃ (f : Addr) (fd : FuncData) (ps : List Str), Cls K C ∧ Meth K C m f ∧ FnOk P wo K mg base CX k f fd ps sp ∧ L2.Binds K fd ps []
def tMethP (A : Addr → Sp → Prop) (m : Str) (E : L2.St → XK) (ta : TE) (t : TA) : TE := fun σ H Q => ta σ H fun x H1 => ∃ a C dx fs sp, x = .ref a ∧ H1 a = some (.ins C dx fs) ∧ A C sp ∧ fs.lookup m = none ∧ t σ H1 fun vs H2 => sp (x :: vs) H2 Q (E σ)
section
variable {X : Cx} {CX : CXT} {k : Nat} {E : L2.St → XK} {m : Str} {pos apos : Pos} {e o : Expr} {es : List Expr} {ta : TE} {t : TA} {A : Addr → Sp → Prop}
theorem pe_methP {pl : Sem Bool} (he : PE X o ta) (hA : ∀ C sp, A C sp → MAlt X.prog X.w X.K X.mg X.base CX k m C sp) (hr : Room k X.A) (hx : ∀ σ, PassesAt CX X σ (E σ)) (ha : PA X (e :: es) t)
    (hst : starEach (e :: es) X.env = (false, eval e X.env) :: starEach es X.env := by rfl) (hpl : (backTo pos (starEach es X.env)).any (·.1) = false := by rfl)
    (ht : eval (.Call (.Attribute o m apos) (e :: es) [] pos) X.env = (do
      let ov ← eval o X.env
      standAt apos.atName
      let (f, first) ← holding [ov] (getMethod ov m pl)
      callWith pos f first (backTo pos (starEach (e :: es) X.env)) (backToKw pos (keywordEach [] X.env))) := by rfl) :
    PE X (.Call (.Attribute o m apos) (e :: es) [] pos) (tMethP A m E ta t) := by
  refine ⟨fun pins s σ H Q I h => ?_⟩
  refine PySem.W.methodCall_KW (pl := pl) (thn (he.run pins s σ H _ I h) fun u s1 ⟨x, H1, I1, rx, a, C, dx, fs, sp, ex, ea, hAC, l, q⟩ => ?_) ht
  subst ex
  obtain rfl : u = Value.ref a := rx
  obtain ⟨f, fd, ps, c, hm, F, hb⟩ := (hA C sp hAC).ex
  refine getmeth_ok I1 ea c hm l ?_
  refine PySem.W.callWith_K (first := [.ref a]) (h₀ := X.base) I.ok.mod.kin hm.kp (thn (ha.run pos pins s1 σ H1 _ I1 q) fun us s2 ⟨vs, H2, I2, r, q2⟩ => ⟨I2.kIn, ?_⟩) hst hpl
  exact run_fnSD (us := .ref a :: us) (vs := .ref a :: vs) (dvs := []) (ds := []) F hr hb .nil (hx σ) I2 (.cons rfl r) (by rw [List.append_nil]; exact q2)
theorem pe_methP0 {pl : Sem Bool} (he : PE X o ta) (hA : ∀ C sp, A C sp → MAlt X.prog X.w X.K X.mg X.base CX k m C sp) (hr : Room k X.A) (hx : ∀ σ, PassesAt CX X σ (E σ))
    (ht : eval (.Call (.Attribute o m apos) [] [] pos) X.env = (do
      let ov ← eval o X.env
      standAt apos.atName
      let (f, first) ← holding [ov] (getMethod ov m pl)
      callWith pos f first (backTo pos (starEach [] X.env)) (backToKw pos (keywordEach [] X.env))) := by rfl) :
    PE X (.Call (.Attribute o m apos) [] [] pos) (tMethP A m E ta tNil) := by
  refine ⟨fun pins s σ H Q I h => ?_⟩
  refine PySem.W.methodCall_KW (pl := pl) (thn (he.run pins s σ H _ I h) fun u s1 ⟨x, H1, I1, rx, a, C, dx, fs, sp, ex, ea, hAC, l, q⟩ => ?_) ht
  subst ex
  obtain rfl : u = Value.ref a := rx
  obtain ⟨f, fd, ps, c, hm, F, hb⟩ := (hA C sp hAC).ex
  refine getmeth_ok I1 ea c hm l ?_
  exact PySem.W.callWith_K0 (first := [.ref a]) I1.kIn hm.kp (run_fnSD (us := [.ref a]) (vs := [.ref a]) (dvs := []) (ds := []) F hr hb .nil (hx σ) I1 (.cons rfl .nil) (by rw [List.append_nil]; exact q))
end
section
variable {K : PySem.W.Frag} {σ : L2.St} {H : Hp} {Q : VK} {A : Addr → Sp → Prop} {m : Str} {E : L2.St → XK} {ta : TE} {t : TA} {C : Addr} {sp : Sp} {dvs : List V} {E0 : XK}
theorem h_methE (h : ta σ H fun x H1 => ∃ a C dx fs sp, x = .ref a ∧ H1 a = some (.ins C dx fs) ∧ A C sp ∧ fs.lookup m = none ∧ t σ H1 fun vs H2 => sp (x :: vs) H2 Q (E σ)) : tMethP A m E ta t σ H Q := h
theorem h_makeE (h : t σ H fun vs H1 => ∀ x dx, H1 x = none → H1 dx = none → dx ≠ x → sp (.ref x :: (vs ++ dvs)) (upd (upd H1 dx (.own x)) x (.ins C dx [])) (fun v H2 => v = .non ∧ Q (.ref x) H2) E0) : tMake C sp dvs E0 t σ H Q := h
theorem lk0 {α : Type} {f : Str} {d : α} {r : List (Str × α)} : List.lookup f ((f, d) :: r) = some d := by
  show (match f == f with | true => some d | false => r.lookup f) = some d
  rw [beq_self_eq_true]
theorem lkS {α : Type} {f g : Str} {d e : α} {r : List (Str × α)} (h : (f == g) = false) (t : List.lookup f r = some d) : List.lookup f ((g, e) :: r) = some d := by
  show (match f == g with | true => some e | false => r.lookup f) = some d
  rw [h]
  exact t
theorem lkN {α : Type} {f g : Str} {e : α} {r : List (Str × α)} (h : (f == g) = false) (t : List.lookup f r = none) : List.lookup f ((g, e) :: r) = none := by
  show (match f == g with | true => some e | false => r.lookup f) = none
  rw [h]
  exact t
theorem lkE {α : Type} {f : Str} : List.lookup f ([] : List (Str × α)) = none := rfl
theorem putS {f g : Str} {v u : V} {r q : List (Str × V)} (h : ¬ g = f) (e : putF f v r = q) : putF f v ((g, u) :: r) = (g, u) :: q := by
  show (if g = f then (g, v) :: r else (g, u) :: putF f v r) = _
  rw [if_neg h, e]
theorem putE {f : Str} {v : V} : putF f v [] = [(f, v)] := rfl
end
/-! ### C(.., k = v) -/
def tMakeB (C : Addr) (sp : Sp) (gV : List V → List V → List V) (E : XK) (t tk : TA) : TE := fun σ H Q => t σ H fun vs H1 => tk σ H1 fun zs H2 =>
  ∀ x dx, H2 x = none → H2 dx = none → dx ≠ x → sp (gV (.ref x :: vs) zs) (upd (upd H2 dx (.own x)) x (.ins C dx [])) (fun v H3 => v = .non ∧ Q (.ref x) H3) E
section
variable {X : Cx} {CX : CXT} {k : Nat} {f C : Addr} {fd : FuncData} {ps ks : List Str} {sp : Sp} {E : XK} {x : Str} {p pos : Pos} {e : Expr} {es : List Expr} {kws : List Keyword} {t tk : TA} {g : List Value → List Value → List Value} {gV : List V → List V → List V}
theorem run_makeB {pins : List (Addr × Obj)} {σ : L2.St} {H : Hp} {s : Shared} {Q : VK} {us ws : List Value} {vs zs : List V} (M : Mk X.K C f) (F : FnOk X.prog X.w X.K X.mg X.base CX k f fd ps sp) (hr : Room (k + 1) X.A) (hb : KBinds X.K fd ps ks g gV)
    (hx : Passes CX X E) (I : Inv X pins σ H s) (r : Vals vs us) (rz : Vals zs ws)
    (h : ∀ x dx, H x = none → H dx = none → dx ≠ x → sp (gV (.ref x :: vs) zs) (upd (upd H dx (.own x)) x (.ins C dx [])) (fun v H2 => v = .non ∧ Q (.ref x) H2) E) :
    wpAny (model X.prog X.w) X.A (call (.ref C) us (ks.zip ws)) (EP X pins σ Q) X.xe s := by
  have hq := h (s.heap.objs.size + 1) s.heap.objs.size (I.hok.fresh (Nat.le_succ _)) (I.hok.fresh (Nat.le_refl _)) (Nat.ne_of_lt (Nat.lt_succ_self _))
  have I2 := Inv.made (C := C) I
  have r1 : Vals (V.ref (s.heap.objs.size + 1) :: vs) (Value.ref (s.heap.objs.size + 1) :: us) := .cons rfl r
  have r2 := hb.rel r1 rz
  have hl : (g (Value.ref (s.heap.objs.size + 1) :: us) ws).length = ps.length := by rw [← r2.length]; exact F.len _ _ _ _ hq
  refine wpAny_call (make_map (f := f) I.kIn M.makes M.init (beq_iff_eq.mp M.fn) (codeAny_mono (F.run _ X.stack _ _ ⟨Value.ref (s.heap.objs.size + 1) :: us, ks.zip ws⟩ (g (Value.ref (s.heap.objs.size + 1) :: us) ws) _ _ E (hr.make C us (ks.zip ws))
    (I2.env0.make C us (ks.zip ws)) (hb.to _ (Value.ref (s.heap.objs.size + 1) :: us) ws I2.kIn hl) r2 hq) fun r s' hq' => ?_))
  cases r with
  | error e => exact hx pins σ _ _ e s' I2 hq'
  | ok fl =>
    cases fl with
    | ret u =>
      obtain ⟨v, H', I3, rv, ev, q3⟩ := I2.after hq'
      subst ev
      exact ⟨rv, ⟨V.ref (s.heap.objs.size + 1), H', I3, rfl, q3⟩⟩
    | next => exact False.elim hq'
    | brk => exact False.elim hq'
    | cont => exact False.elim hq'
theorem pe_makeB (M : Mk X.K C f) (F : FnOk X.prog X.w X.K X.mg X.base CX k f fd ps sp) (hr : Room (k + 1) X.A) (hg : Gl X x) (hm : X.mg x = some (.ref C)) (hb : KBinds X.K fd ps ks g gV) (hx : Passes CX X E)
    (ha : PA X (e :: es) t) (hkw : PK X kws tk) (hall : (backToKw pos (keywordEach kws X.env)).all (·.1.isSome) = true := by rfl) (hks : (backToKw pos (keywordEach kws X.env)).filterMap (·.1) = ks := by rfl)
    (hdb : (x == ("__debug__" : Str)) = false := by decide) (he : starEach (e :: es) X.env = (false, eval e X.env) :: starEach es X.env := by rfl)
    (hpl : ((backTo pos (starEach (e :: es) X.env)).any (·.1) || (backToKw pos (keywordEach kws X.env)).any (·.1.isNone)) = false := by rfl) :
    PE X (.Call (.Name x p) (e :: es) kws pos) (tMakeB C sp gV E t tk) := by
  refine ⟨fun pins s σ H Q I h => ?_⟩
  refine wpAny_Call_Name_kw (ld_glob I hg hm ?_ hdb)
  refine PySem.W.callWith_KW (h₀ := X.base) I.ok.mod.kin M.kp hall (thn (ha.run pos pins s σ H _ I h) fun us s1 ⟨vs, H1, I1, r, q⟩ => ?_) hpl he
  refine thn (hkw.run pos pins s1 σ H1 _ I1 q) fun ws s2 ⟨zs, H2, I2, rz, q2⟩ => ⟨I2.kIn, ?_⟩
  rw [hks]
  exact run_makeB M F hr hb hx I2 r rz q2
theorem pe_makeB0 (M : Mk X.K C f) (F : FnOk X.prog X.w X.K X.mg X.base CX k f fd ps sp) (hr : Room (k + 1) X.A) (hg : Gl X x) (hm : X.mg x = some (.ref C)) (hb : KBinds X.K fd ps ks g gV) (hx : Passes CX X E) (hkw : PK X kws tk)
    (hall : (backToKw pos (keywordEach kws X.env)).all (·.1.isSome) = true := by rfl) (hks : (backToKw pos (keywordEach kws X.env)).filterMap (·.1) = ks := by rfl) (hdb : (x == ("__debug__" : Str)) = false := by decide)
    (hpl : ((backTo pos (starEach [] X.env)).any (·.1) || (backToKw pos (keywordEach kws X.env)).any (·.1.isNone)) = false := by rfl) :
    PE X (.Call (.Name x p) [] kws pos) (tMakeB C sp gV E tNil tk) := by
  refine ⟨fun pins s σ H Q I h => ?_⟩
  refine wpAny_Call_Name_kw (ld_glob I hg hm ?_ hdb)
  refine PySem.W.callWith_KW0 (h₀ := X.base) I.ok.mod.kin M.kp hall ?_ hpl
  refine thn (hkw.run pos pins s σ H _ I h) fun ws s2 ⟨zs, H2, I2, rz, q2⟩ => ⟨I2.kIn, ?_⟩
  rw [hks]
  exact run_makeB (us := []) (vs := []) M F hr hb hx I2 .nil rz q2
theorem h_makeBE {σ : L2.St} {H : Hp} {Q : VK} (h : t σ H fun vs H1 => tk σ H1 fun zs H2 => ∀ x dx, H2 x = none → H2 dx = none → dx ≠ x → sp (gV (.ref x :: vs) zs) (upd (upd H2 dx (.own x)) x (.ins C dx [])) (fun v H3 => v = .non ∧ Q (.ref x) H3) E) : tMakeB C sp gV E t tk σ H Q := h
end
section
variable {K : PySem.W.Frag} {B H : Hp} {σ : L2.St} {Q : VK} {tk tv : TE} {v : V} {d : D} {x : Str}
theorem h_disp1S (hk : ∀ (H' : Hp) (Q : VK), Q (.str x) H' → tk σ H' Q) (hv : ∀ (H' : Hp) (Q : VK), Q v H' → tv σ H' Q) (w : Ex B H) (rv : Rep K B v d)
    (h : ∀ p B' H', Stp [] B H B' H' → Rep K B' (.ref p) (.dic [(.inr x, d)]) → Q (.ref p) H') : tDisp [(tk, tv)] σ H Q := fun p hp => by
  show tk σ (upd H p (.dK [])) _
  refine hk _ _ (hv _ _ ⟨upd_same, [(.inr x, v)], rfl, (by show 1 ≤ 15; decide), ?_⟩)
  rw [L2.upd_upd]
  have hb := w.none hp
  exact h p _ _ (Stp.new w hp) (.dic upd_same (.cons (rv.mono (Ex.new hb)) .nil))
end
/-! ### C.m(..), a def of the class C -/
def tClsF (C : Addr) (sp : Sp) (dvs : List V) (E : XK) (ta : TE) (t : TA) : TE := fun σ H Q => ta σ H fun x H1 => x = .ref C ∧ t σ H1 fun vs H2 => sp (vs ++ dvs) H2 Q E
section
variable {X : Cx} {CX : CXT} {k : Nat} {E : XK} {m : Str} {pos apos : Pos} {e o : Expr} {es : List Expr} {ta : TE} {t : TA} {C g : Addr} {mc : Value} {fd : FuncData} {ps : List Str} {sp : Sp} {dvs : List V} {ds : List Value}
theorem pe_clsf {pl : Sem Bool} (he : PE X o ta) (r : ClX.CRead X.K C mc) (c : ClX.CVal X.K C mc m (.ref g) (.ref g)) (F : FnOk X.prog X.w X.K X.mg X.base CX k g fd ps sp) (hk : PySem.W.keepIn X.K (.ref g) = true) (hr : Room k X.A)
    (hb : L2.Binds X.K fd ps ds) (hd : Vals dvs ds) (hx : Passes CX X E) (ha : PA X (e :: es) t)
    (hst : starEach (e :: es) X.env = (false, eval e X.env) :: starEach es X.env := by rfl) (hpl : (backTo pos (starEach es X.env)).any (·.1) = false := by rfl)
    (ht : eval (.Call (.Attribute o m apos) (e :: es) [] pos) X.env = (do
      let ov ← eval o X.env
      standAt apos.atName
      let (f, first) ← holding [ov] (getMethod ov m pl)
      callWith pos f first (backTo pos (starEach (e :: es) X.env)) (backToKw pos (keywordEach [] X.env))) := by rfl) :
    PE X (.Call (.Attribute o m apos) (e :: es) [] pos) (tClsF C sp dvs E ta t) := by
  refine ⟨fun pins s σ H Q I h => ?_⟩
  refine PySem.W.methodCall_KW (pl := pl) (thn (he.run pins s σ H _ I h) fun u s1 ⟨x, H1, I1, rx, ex, q⟩ => ?_) ht
  subst ex
  obtain rfl : u = Value.ref C := rx
  refine PySem.W.method_cls I1.kIn r.ga (ClX.getcval_ok I1 r c fun s2 I2 => ?_)
  refine PySem.W.callWith_K (first := []) (h₀ := X.base) I2.ok.mod.kin hk (thn (ha.run pos pins s2 σ H1 _ I2 q) fun us s3 ⟨vs, H2, I3, rv, q2⟩ => ⟨I3.kIn, ?_⟩) hst hpl
  exact run_fn F hr hb hd hx I3 rv q2
end
/-! # min of two -/
def minI (i j : Int) : Int := if j < i then j else i
def rMinY : List V → Hp → VK → Prop := fun xs H Q => ∃ i j, xs = [.int i, .int j] ∧ Q (.int (minI i j)) H
theorem cr_minY {X : Cx} (hc : X.calm = true) : CallR X (.builtin "min") rMinY := call_min2 hc
theorem h_min {i j : Int} {H : Hp} {Q : VK} (h : Q (.int (minI i j)) H) : rMinY [.int i, .int j] H Q := ⟨i, j, rfl, h⟩
/-! # a comprehension over a tuple -/
section
variable {K : PySem.W.Frag} {B H : Hp} {σ : L2.St} {Q : VK} {p : Addr} {xs : List V} {g : TG} {tt : TT} {te : TE} {α β S R' : Type} {P : β → Prop} {R : Err → Prop}
def LcU (K : PySem.W.Frag) (v : V) (g : TG) (tt : TT) (te : TE) (vs : List Nat) (σ : L2.St) (H : Hp) (Q : VK) : Prop := tLc (iTup K (tC v)) g tt te vs σ H Q
theorem h_lcUE {vs : List Nat} {tl : TE} (h : tl σ H fun x H1 => LcU K x g tt te vs σ H1 Q) : tLc (iTup K tl) g tt te vs σ H Q := h
theorem h_lcU [Enc α] {l : List α} {s0 : S} {f : α → S → Res (Option R' × S)} {k : List R' × S → Res β} {vs : List Nat} (hP : Post ((compR l s0 f).bind k) P R) (hs : SqT K H p xs) (hr : RepL K B xs (l.map enc))
    (J : Addr → List R' → S → Hp → Prop) (h0 : ∀ Dl, H Dl = none → J Dl [] s0 (upd H Dl (.lst []))) (hl : ∀ Dl acc s H', J Dl acc s H' → SqT K H' p xs)
    (hb : ∀ (Dl : Addr) (N : Hp → Prop) (T : Option R' × S → Prop) (x : α) v acc s H', J Dl acc s H' → Rep K B v (enc x) → acc.length < sizeLine → (∀ b s' H2, J Dl (acc ++ [b]) s' H2 → T (some b, s') → N H2) → (∀ s' H2, J Dl acc s' H2 → T (none, s') → N H2) → Post (f x s) T R →
      g v (wipe σ vs) H' (LcT σ vs tt te Dl N))
    (hd : ∀ Dl acc s H', J Dl acc s H' → Post (k (acc, s)) P R → Q (.ref Dl) H') : LcU K (.ref p) g tt te vs σ H Q := by
  refine ⟨p, rfl, ⟨xs, hs⟩, fun Dl hD => ?_⟩
  unfold compR at hP
  have hz : l.length ≤ 1000000 := by
    by_cases c : l.length ≤ 1000000
    · exact c
    · unfold guardR at hP; rw [if_neg c] at hP; exact hP.elim
  unfold guardR at hP
  rw [if_pos hz] at hP
  refine lc_tup (K := K) (a := p) (xs := xs) (fun i H' => ∃ acc s, J Dl acc s H' ∧ acc.length ≤ i ∧ Post ((compL (l.drop i) s f).bind fun q => k (acc ++ q.1, q.2)) P R) ⟨[], s0, h0 Dl hD, Nat.le_refl _, hP⟩ (fun i H' _ ⟨acc, s, j, _⟩ => hl Dl acc s H' j) ?_ ?_
  · rintro i y H' hi ⟨acc, s, j, hn, q⟩
    have h1 := (List.getElem?_eq_some_iff.mp hi).1
    rw [hr.length, List.length_map] at h1
    obtain ⟨x, hx⟩ : ∃ x, l[i]? = some x := ⟨l[i], List.getElem?_eq_getElem h1⟩
    obtain ⟨u, hu, ru⟩ := hr.get (i := i) (d := enc x) (by rw [List.getElem?_map, hx]; rfl)
    rw [hi] at hu; cases hu
    exact hb Dl _ _ x y acc s H' j ru (Nat.lt_of_le_of_lt (Nat.le_trans hn (Nat.le_trans (Nat.le_of_lt h1) hz)) (by decide)) (fun b s' H2 j2 t2 => ⟨acc ++ [b], s', j2, by rw [List.length_append]; exact Nat.succ_le_succ hn, t2⟩) (fun s' H2 j2 t2 => ⟨acc, s', j2, Nat.le_succ_of_le hn, t2⟩) (q.compS hx)
  · rintro H' ⟨acc, s, j, _, q⟩
    rw [hr.length, List.length_map, List.drop_eq_nil_of_le (Nat.le_refl _)] at q
    have q2 : Post (k (acc ++ [], s)) P R := q
    rw [List.append_nil] at q2
    exact hd Dl acc s H' j q2
end
end Y

set_option Elab.async false
set_option linter.all false
set_option maxRecDepth 100000
set_option maxHeartbeats 4000000
namespace Y
open PySem PySem.Spec PyProof.Rows
open L2
/-! # o.m(k = v) of one of several classes -/
structure MAltK (P : Program) (wo : World) (K : PySem.W.Frag) (mg : Str → Option Value) (base : Heap) (CX : CXT) (k : Nat) (m : Str) (ks : List Str) (gV : List V → List V → List V) (C : Addr) (sp : Sp) : Prop where
  ex : ∃ (f : Addr) (fd : FuncData) (ps : List Str) (g : List Value → List Value → List Value), Cls K C ∧ Meth K C m f ∧ FnOk P wo K mg base CX k f fd ps sp ∧ KBinds K fd ps ks g gV
def tMethK (A : Addr → Sp → Prop) (m : Str) (gV : List V → List V → List V) (E : L2.St → XK) (ta : TE) (tk : TA) : TE := fun σ H Q => ta σ H fun x H1 => ∃ a C dx fs sp, x = .ref a ∧ H1 a = some (.ins C dx fs) ∧ A C sp ∧ fs.lookup m = none ∧ tk σ H1 fun zs H2 => sp (gV [x] zs) H2 Q (E σ)
section
variable {X : Cx} {CX : CXT} {k : Nat} {E : L2.St → XK} {m : Str} {ks : List Str} {pos apos : Pos} {o : Expr} {kws : List Keyword} {ta : TE} {tk : TA} {A : Addr → Sp → Prop} {gV : List V → List V → List V} {f : Addr} {fd : FuncData} {ps : List Str} {sp : Sp} {g : List Value → List Value → List Value}
theorem run_fnkS {pins : List (Addr × Obj)} {σ : L2.St} {H : Hp} {s : Shared} {Q : VK} {us ws : List Value} {vs zs : List V} (F : FnOk X.prog X.w X.K X.mg X.base CX k f fd ps sp) (hr : Room k X.A) (hb : KBinds X.K fd ps ks g gV) (hx : PassesAt CX X σ (E σ))
    (I : Inv X pins σ H s) (r : Vals vs us) (rz : Vals zs ws) (h : sp (gV vs zs) H Q (E σ)) : wpAny (model X.prog X.w) X.A (call (.ref f) us (ks.zip ws)) (EP X pins σ Q) X.xe s := by
  have r2 := hb.rel r rz
  have hl : (g us ws).length = ps.length := by rw [← r2.length]; exact F.len _ _ _ _ h
  refine wpAny_call (codeAny_mono (F.run X.A X.stack s H ⟨us, ks.zip ws⟩ (g us ws) (gV vs zs) Q (E σ) hr I.env0 (hb.to s us ws I.kIn hl) r2 h) fun r s' hq => ?_)
  cases r with
  | error e => exact hx pins H s e s' I hq
  | ok fl =>
    cases fl with
    | ret u => exact I.after hq
    | next => exact False.elim hq
    | brk => exact False.elim hq
    | cont => exact False.elim hq
theorem pe_methK0 {pl : Sem Bool} (he : PE X o ta) (hA : ∀ C sp, A C sp → MAltK X.prog X.w X.K X.mg X.base CX k m ks gV C sp) (hr : Room k X.A) (hx : ∀ σ, PassesAt CX X σ (E σ)) (hkw : PK X kws tk)
    (hall : (backToKw pos (keywordEach kws X.env)).all (·.1.isSome) = true := by rfl) (hks : (backToKw pos (keywordEach kws X.env)).filterMap (·.1) = ks := by rfl)
    (hpl : ((backTo pos (starEach [] X.env)).any (·.1) || (backToKw pos (keywordEach kws X.env)).any (·.1.isNone)) = false := by rfl)
    (ht : eval (.Call (.Attribute o m apos) [] kws pos) X.env = (do
      let ov ← eval o X.env
      standAt apos.atName
      let (f, first) ← holding [ov] (getMethod ov m pl)
      callWith pos f first (backTo pos (starEach [] X.env)) (backToKw pos (keywordEach kws X.env))) := by rfl) :
    PE X (.Call (.Attribute o m apos) [] kws pos) (tMethK A m gV E ta tk) := by
  refine ⟨fun pins s σ H Q I h => ?_⟩
  refine PySem.W.methodCall_KW (pl := pl) (thn (he.run pins s σ H _ I h) fun u s1 ⟨x, H1, I1, rx, a, C, dx, fs, sp, ex, ea, hAC, l, q⟩ => ?_) ht
  subst ex
  obtain rfl : u = Value.ref a := rx
  obtain ⟨f, fd, ps, g, c, hm, F, hb⟩ := (hA C sp hAC).ex
  refine getmeth_ok I1 ea c hm l ?_
  refine PySem.W.callWith_KW0 (first := [.ref a]) (h₀ := X.base) I1.ok.mod.kin hm.kp hall ?_ hpl
  refine thn (hkw.run pos pins s1 σ H1 _ I1 q) fun ws s2 ⟨zs, H2, I2, rz, q2⟩ => ⟨I2.kIn, ?_⟩
  rw [hks]
  exact run_fnkS (us := [.ref a]) (vs := [.ref a]) F hr hb (hx σ) I2 (.cons rfl .nil) rz q2
theorem h_methKE {σ : L2.St} {H : Hp} {Q : VK} (h : ta σ H fun x H1 => ∃ a C dx fs sp, x = .ref a ∧ H1 a = some (.ins C dx fs) ∧ A C sp ∧ fs.lookup m = none ∧ tk σ H1 fun zs H2 => sp (gV [x] zs) H2 Q (E σ)) : tMethK A m gV E ta tk σ H Q := h
end
/-! # tuples: parts and sums -/
section
variable {K : PySem.W.Frag} {B H : Hp} {Q : VK} {p q : Addr} {lo hi : Option Int} {l l2 : List D}
theorem h_slA (w : Ex B H) (r : Rep K B (.ref p) (.tup (l.map Enc.enc))) (h : ∀ u B' H', Stp [] B H B' H' → Rep K B' u (.tup ((cutL l lo hi).map Enc.enc)) → Q u H') : rSlA K (.ref p) lo hi H Q := by
  obtain ⟨p', xs, e, s, rr⟩ := r.st w
  cases e
  refine ⟨p, xs, rfl, s, fun c => ?_, fun _ p2 hp2 => ?_⟩
  · have e : cutL l lo hi = l := by
      have hl : xs.length = l.length := by rw [rr.length, List.length_map]
      rw [hl] at c
      unfold cutL
      rw [c.1, c.2]
      simp
    refine h _ _ _ (Stp.refl w) ?_
    rw [e]
    exact r
  · exact h _ _ _ (Stp.new w hp2) (.tup (SqT.of upd_same) ((rr.cut lo hi).mono (Ex.new (w.none hp2))))
theorem h_catA (w : Ex B H) (r1 : Rep K B (.ref p) (.tup (l.map Enc.enc))) (r2 : Rep K B (.ref q) (.tup (l2.map Enc.enc))) (hz : l.length + l2.length ≤ 1000000) (h : ∀ u B' H', Stp [] B H B' H' → Rep K B' u (.tup ((l ++ l2).map Enc.enc)) → Q u H') : rCatA K (.ref p) (.ref q) H Q := by
  obtain ⟨p', xs, e, s1, rr1⟩ := r1.st w
  cases e
  obtain ⟨q', ys, e, s2, rr2⟩ := r2.st w
  cases e
  have hl : xs.length = l.length := by rw [rr1.length, List.length_map]
  have hl2 : ys.length = l2.length := by rw [rr2.length, List.length_map]
  refine ⟨p, q, xs, ys, rfl, rfl, s1, s2, by rw [hl, hl2]; exact Nat.le_trans hz (by decide), fun e => ?_, fun _ e => ?_, fun _ _ p2 hp2 => ?_⟩
  · subst e
    have : l = [] := List.eq_nil_of_length_eq_zero hl.symm
    subst this
    exact h _ _ _ (Stp.refl w) r2
  · subst e
    have : l2 = [] := List.eq_nil_of_length_eq_zero hl2.symm
    subst this
    refine h _ _ _ (Stp.refl w) ?_
    rw [List.append_nil]
    exact r1
  · exact h _ _ _ (Stp.new w hp2) (.tup (SqT.of upd_same) ((rr1.cat rr2).mono (Ex.new (w.none hp2))))
end
end Y

set_option Elab.async false
set_option linter.all false
set_option maxRecDepth 100000
set_option maxHeartbeats 4000000
/-! # max(xs, default = d): the loop with its keywords -/
namespace MxD
open PySem
section
variable {prog : Program} {w : World} {A : Around} {R : Result → Shared → Prop} {I : Addr} {fp wr : List Addr} {n : Nat} {P : Nat → Value → Prop} {St : Nat → Heap → Prop} {kw : List (Str × Value)}
theorem nm : (toString "max" ++ toString ".loop" : String) = "max.loop" := by decide
/-- behind the first item -/
theorem loop (W : Walks prog w A.in1 I fp wr n P St) (bt : Nat → Nat → Bool) (hcmp : CmpOf prog w A.in1 .Gt P bt) (S : Addr) (off : S ∉ fp) (k : Nat) : ∀ (j : Nat) (s : Shared) (best : Value) (c : Nat), n = j + 1 + k → St (j + 1) s.heap → P (argBest bt j) best →
    s.heap.get? S = some { cls := .type "list", dict := none, data := .seq #[best, best] c, slots := #[] } →
    (∀ v h' tk, P (argBest bt (n - 1)) v → (∀ b o, b ∉ wr → b ≠ S → s.heap.get? b = some o → h'.get? b = some o) → R (.ok (.ret v)) { s with heap := h', toks := tk }) → codeAny (model prog w) A (.builtin "max.loop" ⟨[.ref I, .none, .ref S], kw⟩) R s := by
  have offw : S ∉ wr := fun h => off (W.sub _ h)
  induction k with
  | zero =>
    intro j s best c en st pb hS fin
    refine codeAny_builtin F.entry_max_loop ?_
    rw [Around.under_plainId F.plain_max_loop _]
    show wpAny (model prog w) A.in1 (seqItems? (.ref S) >>= _) _ _ s
    refine wpAny_bind (wpAny_seqItems hS rfl ?_)
    show wpAny (model prog w) A.in1 (tryCatch (pyNext (.ref I)) _ >>= _) _ _ s
    refine wpAny_bind (wpAny_tryCatch (W.done s _ _ (en ▸ st) fun h' tk kept => ?_))
    show wpAny (model prog w) A.in1 (updateSeq S (fun _ => #[]) >>= _) _ _ _
    refine wpAny_bind (wpAny_updateSeq (kept S _ offw hS) rfl (wpAny_bind (wpAny_letGo (wpAny_pure ?_))))
    exact fin best _ tk (by rw [en]; exact pb) fun b o h1 h2 e => (Heap.get?_update_other _ _ h2.symm).trans (kept b o h1 e)
  | succ k ih =>
    intro j s best c en st pb hS fin
    refine codeAny_builtin F.entry_max_loop ?_
    rw [Around.under_plainId F.plain_max_loop _]
    show wpAny (model prog w) A.in1 (seqItems? (.ref S) >>= _) _ _ s
    refine wpAny_bind (wpAny_seqItems hS rfl ?_)
    show wpAny (model prog w) A.in1 (tryCatch (pyNext (.ref I)) _ >>= _) _ _ s
    refine wpAny_bind (wpAny_tryCatch (W.item (j + 1) s _ _ (by omega) st fun v h' tk pv st' kept => ?_))
    have hS' := kept S _ offw hS
    show wpAny (model prog w) A.in1 (tryCatch (holding [v, v] (richCompare .Gt v best >>= _)) _ >>= _) _ _ _
    refine wpAny_bind (wpAny_tryCatch (wpAny_holding (wpAny_bind (hcmp (j + 1) (argBest bt j) v best _ _ _ pv pb ?_))))
    refine wpAny_bind (wpAny_holding (wpAny_truthy_bool (wpAny_bind (wpAny_letGo (wpAny_pure ?_)))))
    by_cases hb : bt (j + 1) (argBest bt j) = true
    · rw [hb]
      simp only [if_true]
      refine wpAny_bind (wpAny_updateSeq hS' rfl (wpAny_bind (wpAny_letGo ?_)))
      rw [nm]
      refine wpAny_pure ⟨plainId_quiet F.plain_max_loop _, ih (j + 1) _ v _ (by omega) (W.frame _ _ _ st' fun b hf o e => (Heap.get?_update_other _ _ (fun q : S = b => off (by rw [q]; exact hf))).trans e) (by simp only [argBest, hb, if_true]; exact pv) (Heap.get?_update_self _ hS' rfl) fun v2 h2 tk2 p2 k2 => ?_⟩
      exact fin v2 h2 tk2 p2 fun b o h1 hn e => k2 b o h1 hn ((Heap.get?_update_other _ _ hn.symm).trans (kept b o h1 e))
    · have hb := Bool.eq_false_iff.mpr hb
      rw [hb]
      simp only [Bool.false_eq_true, if_false]
      refine wpAny_bind (wpAny_letGo ?_)
      rw [nm]
      refine wpAny_pure ⟨plainId_quiet F.plain_max_loop _, ih (j + 1) _ best c (by omega) st' (by simp only [argBest, hb, Bool.false_eq_true, if_false]; exact pb) hS' fun v2 h2 tk2 p2 k2 => ?_⟩
      exact fin v2 h2 tk2 p2 fun b o h1 hn e => k2 b o h1 hn (kept b o h1 e)
theorem first (W : Walks prog w A.in1 I fp wr n P St) (bt : Nat → Nat → Bool) (hcmp : CmpOf prog w A.in1 .Gt P bt) (S : Addr) (off : S ∉ fp) (hn : 0 < n) {s : Shared} {c : Nat} (st : St 0 s.heap)
    (hS : s.heap.get? S = some { cls := .type "list", dict := none, data := .seq #[] c, slots := #[] })
    (fin : ∀ v h' tk, P (argBest bt (n - 1)) v → (∀ b o, b ∉ wr → b ≠ S → s.heap.get? b = some o → h'.get? b = some o) → R (.ok (.ret v)) { s with heap := h', toks := tk }) : codeAny (model prog w) A (.builtin "max.loop" ⟨[.ref I, .none, .ref S], kw⟩) R s := by
  have offw : S ∉ wr := fun h => off (W.sub _ h)
  refine codeAny_builtin F.entry_max_loop ?_
  rw [Around.under_plainId F.plain_max_loop _]
  show wpAny (model prog w) A.in1 (seqItems? (.ref S) >>= _) _ _ s
  refine wpAny_bind (wpAny_seqItems hS rfl ?_)
  show wpAny (model prog w) A.in1 (tryCatch (pyNext (.ref I)) _ >>= _) _ _ s
  refine wpAny_bind (wpAny_tryCatch (W.item 0 s _ _ hn st fun v h' tk pv st' kept => ?_))
  have hS' := kept S _ offw hS
  show wpAny (model prog w) A.in1 (updateSeq S (fun _ => #[v, v]) >>= _) _ _ _
  refine wpAny_bind (wpAny_updateSeq hS' rfl ?_)
  rw [nm]
  refine wpAny_pure ⟨plainId_quiet F.plain_max_loop _, loop W bt hcmp S off (n - 1) 0 _ v _ (by omega) (W.frame _ _ _ st' fun b hf o e => (Heap.get?_update_other _ _ (fun q : S = b => off (by rw [q]; exact hf))).trans e) pv (Heap.get?_update_self _ hS' rfl) fun v2 h2 tk2 p2 k2 => ?_⟩
  exact fin v2 h2 tk2 p2 fun b o h1 hn e => k2 b o h1 hn ((Heap.get?_update_other _ _ hn.symm).trans (kept b o h1 e))
/-- no item: the default -/
theorem none_ (W : Walks prog w A.in1 I fp wr n P St) (n0 : n = 0) (S : Addr) (off : S ∉ fp) {s : Shared} {c : Nat} {d : Value} {x : Str} (st : St 0 s.heap)
    (hS : s.heap.get? S = some { cls := .type "list", dict := none, data := .seq #[] c, slots := #[] })
    (fin : ∀ h' tk, (∀ b o, b ∉ wr → b ≠ S → s.heap.get? b = some o → h'.get? b = some o) → R (.ok (.ret d)) { s with heap := h', toks := tk }) : codeAny (model prog w) A (.builtin "max.loop" ⟨[.ref I, .none, .ref S], [(x, d)]⟩) R s := by
  refine codeAny_builtin F.entry_max_loop ?_
  rw [Around.under_plainId F.plain_max_loop _]
  show wpAny (model prog w) A.in1 (seqItems? (.ref S) >>= _) _ _ s
  refine wpAny_bind (wpAny_seqItems hS rfl ?_)
  show wpAny (model prog w) A.in1 (tryCatch (pyNext (.ref I)) _ >>= _) _ _ s
  refine wpAny_bind (wpAny_tryCatch (W.done s _ _ (n0.symm ▸ st) fun h' tk kept => ?_))
  exact wpAny_bind (wpAny_rule (wpAny_pure (fin h' tk fun b o h1 _ e => kept b o h1 e)))
end
theorem args_max_d (a d : Value) : argsOk "max" ⟨[a], [(Str.ofString "default", d)]⟩ := by unfold argsOk; kernel_rfl
theorem call_tree_kw {prog : Program} {w : World} {A : Around} {s : Shared} {E : Value → Shared → Prop} {id : String} {b : Builtin} {args : List Value} {kw : List (Str × Value)} {Q : Value → Shared → Prop} (hk : builtinKind id = none) (hp : plainId id = true) (hb : entryFor table id = some b) (ha : argsOk id ⟨args, kw⟩)
    (hc : wpAny (model prog w) A.in1 (b ⟨args, kw⟩) (fun fin s' => match fin with
      | .done f => (match (Except.ok f : Result) with | .ok (.ret v) => Q v s' | .ok _ => False | .error e => E e s')
      | .again c => c.quiet = true ∧ codeAny (model prog w) A c (fun r s' => match r with | .ok (.ret v) => Q v s' | .ok _ => False | .error e => E e s') s') E s) : wpAny (model prog w) A (call (.builtin id) args kw) Q E s := by
  refine wpAny_call (codeAny_call_builtin hp hb ?_)
  simp only [checkBuiltinCall, hk]
  cases hsig : Manifest.signature? id with
  | none => exact wpAny_pure hc
  | some sig =>
    simp only [argsOk, hsig] at ha
    have h2 : Bind.checkArgs id sig ⟨args, kw⟩ = pure () := ha
    show wpAny (model prog w) A.in1 (Bind.checkArgs id sig ⟨args, kw⟩) _ _ s
    rw [h2]
    exact wpAny_pure hc
open PyProof.Rows L2 in
theorem raw {prog : Program} {w : World} {A : Around} {s : Shared} {E Q : Value → Shared → Prop} {l : Addr} {its : List Value} {ns : List Int} {d : Int} {td : Tok} (hh : A.handled = none) (hl : s.heap.IsList l its.toArray) (hi : IntsAre its ns)
    (h : ∀ h' tk M t', (∀ b o, s.heap.get? b = some o → h'.get? b = some o) → (ns ≠ [] → M ∈ ns ∧ ∀ a, a ∈ ns → a ≤ M) → (ns = [] → M = d) → Q (.int M t') { s with heap := h', toks := tk }) : wpAny (model prog w) A (call (.builtin "max") [.ref l] [(Str.ofString "default", .int d td)]) Q E s := by
  obtain ⟨xs, e⟩ := hi.allInts.items
  have hn : numsOf (intItems xs).toList = ns := by rw [← e]; exact hi.numsOf
  rw [nums_intItems] at hn
  subst hn
  rw [e] at hl
  refine call_tree_kw F.kind_max F.plain_max F.entry_max (args_max_d _ _) ?_
  show wpAny (model prog w) A.in1 (Builtin.Builtins.bindParams "max" ["key", "default"] 0 ⟨[], [(Str.ofString "default", .int d td)]⟩ >>= _) _ _ s
  refine wpAny_bind (wpAny_of_eq (show Builtin.Builtins.bindParams "max" ["key", "default"] 0 ⟨[], [(Str.ofString "default", .int d td)]⟩ = pure [none, some (.int d td)] by kernel_rfl) ?_)
  refine wpAny_bind (wpAny_pure ?_)
  refine wpAny_bind (wpAny_mono (iter_intList (Q := fun it s₂ => it = .ref s.heap.objs.size ∧ s₂ = { s with heap := s.heap.push { cls := .type "list_iterator", data := .fields #[.ref l, .int 0 0] } } ∧ (s₂.heap.IsListIter s.heap.objs.size l 0 ∧ s₂.heap.IsList l (intItems xs)) ∧ ∀ b ∈ [s.heap.objs.size, l], b < s₂.heap.objs.size) hl fun s₂ e st hfp hlI => ⟨rfl, e, st, hfp⟩) ?_ fun _ _ e => e)
  rintro _ s₂ ⟨rfl, e, st, hfp⟩
  subst e
  have hne : l ≠ s.heap.objs.size := by obtain ⟨_, e, _⟩ := hl; exact Nat.ne_of_lt (Heap.lt_size e)
  have W := Walks.list (prog := prog) (w := w) (A := A.in1) hh _ l hne (intItems xs)
  refine wpAny_bind (wpAny_newObj_type ?_)
  rw [nm]
  have off := fun hm => Nat.lt_irrefl _ (hfp _ hm)
  have st2 := fun o2 : Obj => W.frame 0 _ ((s.heap.push { cls := .type "list_iterator", data := .fields #[.ref l, .int 0 0] }).push o2) st fun b _ o e => Heap.get?_push_of_some _ e
  have old : ∀ (h' : Heap) {S : Addr}, S = s.heap.objs.size + 1 → (∀ b o, b ∉ [s.heap.objs.size] → b ≠ S → ((s.heap.push { cls := .type "list_iterator", data := .fields #[.ref l, .int 0 0] }).push { cls := .type "list", data := .seq #[] }).get? b = some o → h'.get? b = some o) → ∀ b o, s.heap.get? b = some o → h'.get? b = some o := fun h' S eS k b o e => by
    have hb := Heap.lt_size e
    refine k b o (fun m => ?_) (by rw [eS]; exact Nat.ne_of_lt (Nat.lt_succ_of_lt hb)) (Heap.get?_push_of_some _ (Heap.get?_push_of_some _ e))
    rw [List.mem_singleton.mp m] at hb
    exact Nat.lt_irrefl _ hb
  have eS : ∀ o : Obj, (s.heap.push o).objs.size = s.heap.objs.size + 1 := fun o => Heap.size_push ..
  have sz : (intItems xs).size = xs.size := by simp [intItems]
  by_cases hz : (intItems xs).size = 0
  · refine wpAny_pure ⟨plainId_quiet F.plain_max_loop _, none_ W hz _ off (st2 _) (Heap.get?_push_size _ rfl) fun h' tk kept => ?_⟩
    have : xs.toList = [] := by
      apply List.eq_nil_of_length_eq_zero
      rw [Array.length_toList]
      omega
    exact h h' tk d td (old h' (eS _) kept) (fun q => absurd (by rw [this]; rfl) q) fun _ => rfl
  · refine wpAny_pure ⟨plainId_quiet F.plain_max_loop _, first W _ (CmpOf.ints_gt (numAt xs) (fun _ _ => intItems_at)) _ off (by omega) (st2 _) (Heap.get?_push_size _ rfl) fun v h' tk pv kept => ?_⟩
    obtain ⟨t, rfl⟩ := intItems_at (show (intItems xs)[_]? = some v from pv)
    obtain ⟨h1, h2⟩ := argBest_gt (numAt xs) ((intItems xs).size - 1)
    refine h h' tk _ t (old h' (eS _) kept) (fun _ => ⟨?_, fun a ha => ?_⟩) fun q => absurd q ?_
    · rw [numAt_eq]; exact PySem.getD_mem (by rw [List.length_map, Array.length_toList]; omega)
    · obtain ⟨j, hj, rfl⟩ := mem_getD ha
      rw [List.length_map, Array.length_toList] at hj
      rw [← numAt_eq]; exact h2 j (by omega)
    · intro e2
      have := congrArg List.length e2
      rw [List.length_map, Array.length_toList] at this
      have : xs.size = 0 := this
      omega
open PyProof.Rows L2 in
theorem rawT {prog : Program} {w : World} {A : Around} {s : Shared} {E Q : Value → Shared → Prop} {l : Addr} {its : List Value} {ns : List Int} (hh : A.handled = none) (hT : s.heap.IsTuple l its.toArray) (hi : IntsAre its ns) (hne : ns ≠ [])
    (h : ∀ h' tk M t', (∀ b o, s.heap.get? b = some o → h'.get? b = some o) → M ∈ ns → (∀ a, a ∈ ns → a ≤ M) → Q (.int M t') { s with heap := h', toks := tk }) : wpAny (model prog w) A (call (.builtin "max") [.ref l]) Q E s := by
  obtain ⟨xs, e⟩ := hi.allInts.items
  have hn : numsOf (intItems xs).toList = ns := by rw [← e]; exact hi.numsOf
  rw [nums_intItems] at hn
  subst hn
  rw [e] at hT
  have lt : l < s.heap.objs.size := by obtain ⟨_, e, _⟩ := hT; exact Heap.lt_size e
  have sz : (intItems xs).size = xs.size := by simp [intItems]
  have hx : 0 < xs.size := by
    cases q : xs.size with
    | zero => exact absurd (List.eq_nil_of_length_eq_zero (by rw [List.length_map, Array.length_toList]; exact q)) hne
    | succ n => exact Nat.succ_pos n
  refine call_max_walk (wpAny_pyIter_tuple hT ?_)
  refine ⟨_, [_, l], [_], _, _, _, _, rfl, Walks.tuple (A := A.in1) hh _ l (Nat.ne_of_lt lt) (intItems xs), ⟨⟨_, Heap.get?_push_size _ rfl, rfl, rfl⟩, hT.push _⟩, fun c hc => ?_, by rw [sz]; exact hx, CmpOf.ints_gt (numAt xs) (fun _ _ => intItems_at), fun v h' tk pv hk => ?_⟩
  · show c < (s.heap.push _).objs.size
    rw [Heap.size_push]
    rcases List.mem_cons.mp hc with rfl | hc
    · exact Nat.lt_succ_self _
    · rw [List.mem_singleton.mp hc]; exact Nat.lt_succ_of_lt lt
  · obtain ⟨t, rfl⟩ := intItems_at (show (intItems xs)[_]? = some v from pv)
    obtain ⟨h1, h2⟩ := argBest_gt (numAt xs) ((intItems xs).size - 1)
    refine h h' tk _ t (fun b o e => hk b o (fun m => ?_) (Heap.get?_push_of_some _ e)) ?_ fun a ha => ?_
    · have := Heap.lt_size e
      rw [List.mem_singleton.mp m] at this
      exact Nat.lt_irrefl _ this
    · rw [numAt_eq]; exact PySem.getD_mem (by rw [List.length_map, Array.length_toList]; omega)
    · obtain ⟨j, hj, rfl⟩ := mem_getD ha
      rw [List.length_map, Array.length_toList] at hj
      rw [← numAt_eq]; exact h2 j (by omega)
end MxD
namespace Y
open PySem PySem.Spec PyProof.Rows
open L2
def maxL (d : Int) : List Int → Int
  | [] => d
  | n :: r => r.foldl (fun a b => if a < b then b else a) n
theorem foldmax : ∀ (r : List Int) (n : Int), (r.foldl (fun a b => if a < b then b else a) n = n ∨ r.foldl (fun a b => if a < b then b else a) n ∈ r) ∧ n ≤ r.foldl (fun a b => if a < b then b else a) n ∧ ∀ a ∈ r, a ≤ r.foldl (fun a b => if a < b then b else a) n
  | [], n => ⟨.inl rfl, Int.le_refl _, fun _ m => nomatch m⟩
  | x :: r, n => by
    obtain ⟨h1, h2, h3⟩ := foldmax r (if n < x then x else n)
    simp only [List.foldl_cons]
    have hx : n ≤ (if n < x then x else n) ∧ x ≤ (if n < x then x else n) := by split <;> omega
    refine ⟨?_, Int.le_trans hx.1 h2, fun a m => ?_⟩
    · rcases h1 with e | m
      · rw [e]
        split
        · exact .inr List.mem_cons_self
        · exact .inl rfl
      · exact .inr (List.mem_cons_of_mem _ m)
    · rcases List.mem_cons.mp m with rfl | m
      · exact Int.le_trans hx.2 h2
      · exact h3 a m
theorem maxL_eq {ns : List Int} {M d : Int} (h : ns ≠ [] → M ∈ ns ∧ ∀ a, a ∈ ns → a ≤ M) (h0 : ns = [] → M = d) : M = maxL d ns := by
  cases ns with
  | nil => exact h0 rfl
  | cons n r =>
    obtain ⟨m, u⟩ := h (by simp)
    obtain ⟨h1, h2, h3⟩ := foldmax r n
    refine Int.le_antisymm ?_ (u _ ?_)
    · rcases List.mem_cons.mp m with rfl | m
      · exact h2
      · exact h3 M m
    · rcases h1 with e | m
      · show r.foldl _ n ∈ _
        rw [e]; exact List.mem_cons_self
      · exact List.mem_cons_of_mem _ m
def rMaxD (K : PySem.W.Frag) : List V → List V → Hp → VK → Prop := fun vs zs H Q => ∃ (a : Addr) (ns : List Int) (d : Int), vs = [V.ref a] ∧ zs = [.int d] ∧ SqL K H a (ns.map V.int) ∧ Q (.int (maxL d ns)) H
theorem cr_maxDef {X : Cx} (hc : X.calm = true) : CallRK X (.builtin "max") [Str.ofString "default"] (rMaxD X.K) := by
  intro pins s σ H vs zs us ws Q I r rz h
  obtain ⟨a, ns, d, rfl, rfl, hs, q⟩ := h
  obtain ⟨its, rv, hl, _⟩ := I.list hs
  obtain rfl := Vals.ref1 r
  obtain ⟨w1, rfl, t, e1⟩ := vals1 rz
  subst e1
  refine MxD.raw (I.ok.hd hc) hl.isList rv.ints fun h' tk m t' hk h1 h2 => ⟨.int _, H, I.kept hk, ⟨_, rfl⟩, ?_⟩
  rw [maxL_eq h1 h2]
  exact q
def rMaxT (K : PySem.W.Frag) : List V → Hp → VK → Prop := fun vs H Q => ∃ (a : Addr) (ns : List Int), vs = [V.ref a] ∧ ns ≠ [] ∧ SqT K H a (ns.map V.int) ∧ Q (.int (maxL 0 ns)) H
theorem cr_maxTup {X : Cx} (hc : X.calm = true) : CallR X (.builtin "max") (rMaxT X.K) := by
  intro pins s σ H vs us Q I r h
  obtain ⟨a, ns, rfl, hne, hs, q⟩ := h
  obtain ⟨its, rv, hl, _⟩ := I.tuple hs
  obtain rfl := Vals.ref1 r
  refine MxD.rawT (I.ok.hd hc) hl rv.ints hne fun h' tk m t' hk h1 h2 => ⟨.int _, H, I.kept hk, ⟨_, rfl⟩, ?_⟩
  rw [maxL_eq (d := 0) (fun _ => ⟨h1, h2⟩) fun e => absurd e hne]
  exact q
/-- the numbers of a tuple of numbers -/
def intsO : List D → Option (List Int)
  | [] => some []
  | .int i :: r => (intsO r).map (i :: ·)
  | _ :: _ => none
theorem intsO_eq : ∀ {ds : List D} {ns : List Int}, intsO ds = some ns → ds = ns.map D.int
  | [], ns, e => by cases e; rfl
  | .int i :: r, ns, e => by
    cases q : intsO r with
    | none =>
      have e' : (intsO r).map (i :: ·) = some ns := e
      rw [q] at e'; exact nomatch e'
    | some m =>
      have e' : (intsO r).map (i :: ·) = some ns := e
      rw [q] at e'
      cases e'
      rw [intsO_eq q]
      rfl
def asIs (d : D) : Res (List Int) := match d with | .tup ds => (match intsO ds with | Option.some (n :: r) => .ok (n :: r) | _ => .stuck) | _ => .stuck
theorem Post.asIs {β : Type} {d : D} {k : List Int → Res β} {P : β → Prop} {R : Err → Prop} (h : Post ((Y.asIs d).bind k) P R) : ∃ ns : List Int, ns ≠ [] ∧ d = .tup (ns.map D.int) ∧ Post (k ns) P R := by
  cases d with
  | tup ds =>
    have h' : Post ((match intsO ds with | Option.some (n :: r) => Res.ok (n :: r) | _ => Res.stuck).bind k) P R := h
    cases q : intsO ds with
    | none => rw [q] at h'; exact h'.elim
    | some m =>
      rw [q] at h'
      cases m with
      | nil => exact h'.elim
      | cons n r => exact ⟨n :: r, by simp, by rw [intsO_eq q], h'⟩
  | _ => exact h.elim
theorem h_maxTup {K : PySem.W.Frag} {B H : Hp} {Q : VK} {v : V} {ns : List Int} (w : Ex B H) (hne : ns ≠ []) (r : Rep K B v (.tup (ns.map D.int))) (h : Q (.int (maxL 0 ns)) H) : rMaxT K [v] H Q := by
  obtain ⟨p, xs, rfl, s, rr⟩ := r.st w
  refine ⟨p, ns, rfl, hne, ?_, h⟩
  rw [← RepL.of_ints rr]
  exact s
theorem h_ckw {σ : L2.St} {H : Hp} {Q : VK} {r : List V → List V → Hp → VK → Prop} {t tk : TA} (h : t σ H fun vs H1 => tk σ H1 fun zs H2 => r vs zs H2 Q) : tCKw r t tk σ H Q := h
theorem h_maxDef {K : PySem.W.Frag} {B H : Hp} {Q : VK} {p : Addr} {xs : List V} {l : List Int} {d : Int} (s : SqL K H p xs) (r : RepL K B xs (l.map Enc.enc)) (h : Q (.int (maxL d l)) H) : rMaxD K [.ref p] [.int d] H Q := by
  refine ⟨p, l, d, rfl, rfl, ?_, h⟩
  rw [← r.intsV]
  exact s
/-! # x & 255 -/
def rAnd255 : V → V → Hp → VK → Prop := fun x y H Q => ∃ (i : Int) (k : Nat), x = .int i ∧ y = .int (2 ^ k - 1) ∧ Q (.int (i % 2 ^ k)) H
theorem op_and255 {X : Cx} : OpR X (binaryOp .BitAnd) rAnd255 := op_andM
theorem h_and255 {H : Hp} {Q : VK} {i : Int} (h : Q (.int (i % 256)) H) : rAnd255 (.int i) (.int 255) H Q := ⟨i, 8, rfl, rfl, h⟩
/-! # what is never reached -/
theorem ps_unreached {X : Cx} {st : Stmt} : PS X st (fun _ _ _ => False) := ⟨fun _ _ _ _ _ _ h => h.elim⟩
theorem pss_unreached {X : Cx} {ss : List Stmt} : PSs X ss (fun _ _ _ => False) := ⟨fun _ _ _ _ _ _ h => h.elim⟩
/-! # comprehensions with places, and over two lists -/
section
variable {K : PySem.W.Frag} {B H : Hp} {σ : L2.St} {Q : VK} {p p2 : Addr} {xs ys : List V} {g : TG} {tt : TT} {te : TE} {α α' β S R' : Type} {P : β → Prop} {R : Err → Prop}
def LcE (K : PySem.W.Frag) (ws : List V) (g : TG) (tt : TT) (te : TE) (vs : List Nat) (σ : L2.St) (H : Hp) (Q : VK) : Prop := tLc (iEnum K (fun _ H Q => Q ws H)) g tt te vs σ H Q
theorem h_lcEnE {vs : List Nat} {ta : TA} (h : ta σ H fun ws H1 => LcE K ws g tt te vs σ H1 Q) : tLc (iEnum K ta) g tt te vs σ H Q := h
theorem h_lcEn [Enc α] {l : List α} {s0 : S} {f : Tp2 Int α → S → Res (Option R' × S)} {k : List R' × S → Res β} {vs : List Nat} (hP : Post ((compR (enumL l) s0 f).bind k) P R) (hs : SqL K H p xs) (hr : RepL K B xs (l.map Enc.enc))
    (J : Addr → List R' → S → Hp → Prop) (h0 : ∀ Dl, H Dl = none → J Dl [] s0 (upd H Dl (.lst []))) (hl : ∀ Dl acc s H', J Dl acc s H' → SqL K H' p xs)
    (hb : ∀ (Dl : Addr) (N : Hp → Prop) (T : Option R' × S → Prop) (x : Tp2 Int α) u acc s H', J Dl acc s H' → Rep K B u (Enc.enc x.b) → acc.length < sizeLine → (∀ b s' H2, J Dl (acc ++ [b]) s' H2 → T (some b, s') → N H2) → (∀ s' H2, J Dl acc s' H2 → T (none, s') → N H2) → Post (f x s) T R →
      NewT [.int x.a, u] H' fun v H1 => g v (wipe σ vs) H1 (LcT σ vs tt te Dl N))
    (hd : ∀ Dl acc s H', J Dl acc s H' → Post (k (acc, s)) P R → Q (.ref Dl) H') : LcE K [.ref p] g tt te vs σ H Q := by
  refine ⟨p, xs, rfl, hs, fun Dl hD => ?_⟩
  unfold compR at hP
  have hll : xs.length = l.length := by rw [hr.length, List.length_map]
  have hel : (enumL l).length = l.length := by unfold enumL; rw [List.length_mapIdx]
  have hz : (enumL l).length ≤ 1000000 := by
    by_cases c : (enumL l).length ≤ 1000000
    · exact c
    · unfold guardR at hP; rw [if_neg c] at hP; exact hP.elim
  unfold guardR at hP
  rw [if_pos hz] at hP
  refine lc_it (n := xs.length) walk_enum (fun i H' => ∃ acc s, J Dl acc s H' ∧ acc.length ≤ i ∧ Post ((compL ((enumL l).drop i) s f).bind fun q => k (acc ++ q.1, q.2)) P R) ⟨[], s0, h0 Dl hD, Nat.le_refl _, hP⟩ (fun i H' _ ⟨acc, s, j, _⟩ => hl Dl acc s H' j) ?_ ?_
  · rintro i v H' H2 hi ⟨acc, s, j, hn, q⟩ ⟨T, y1, y2, rfl, hT, rfl, h1, h2⟩
    cases Option.some.inj h1
    have hil : i < l.length := by omega
    have hx : (enumL l)[i]? = some ⟨(i : Int), l[i]⟩ := by
      unfold enumL
      rw [List.getElem?_mapIdx, List.getElem?_eq_getElem hil]
      rfl
    obtain ⟨u, hu, ru⟩ := hr.get (i := i) (d := Enc.enc l[i]) (by rw [List.getElem?_map, List.getElem?_eq_getElem hil]; rfl)
    have h2 : xs[i]? = some y2 := h2
    rw [h2] at hu; cases hu
    exact (hb Dl _ _ ⟨(i : Int), l[i]⟩ y2 acc s H' j ru (Nat.lt_of_le_of_lt (Nat.le_trans hn (Nat.le_trans (Nat.le_of_lt (hel.symm ▸ hil)) hz)) (by decide)) (fun b s' H2 j2 t2 => ⟨acc ++ [b], s', j2, by rw [List.length_append]; exact Nat.succ_le_succ hn, t2⟩) (fun s' H2 j2 t2 => ⟨acc, s', j2, Nat.le_succ_of_le hn, t2⟩) (q.compS hx)).2 T hT
  · rintro H' ⟨acc, s, j, _, q⟩
    rw [List.drop_eq_nil_of_le (by rw [hel, hll]; exact Nat.le_refl _)] at q
    have q2 : Post (k (acc ++ [], s)) P R := q
    rw [List.append_nil] at q2
    exact hd Dl acc s H' j q2
end
/-! # reverse, clear -/
section
variable {K : PySem.W.Frag} {B H : Hp} {Q : VK} {p : Addr} {ds : List D}
theorem h_reverse {α : Type} [Enc α] {l : List α} (w : Ex B H) (m : Mu K B H p (l.map Enc.enc)) (h : ∀ H', Stp [p] B H B H' → Mu K B H' p (l.reverse.map Enc.enc) → Q .non H') : rReverse (.ref p) [] H Q := by
  obtain ⟨xs, hp, _, rl⟩ := m.sq
  obtain ⟨s, m'⟩ := Stp.mut w m (RepL.rev (l := l) rl)
  exact ⟨p, xs, rfl, rfl, hp, h _ s m'⟩
theorem h_clear {α : Type} [Enc α] {l : List α} (w : Ex B H) (m : Mu K B H p (l.map Enc.enc)) (h : ∀ H', Stp [p] B H B H' → Mu K B H' p (([] : List α).map Enc.enc) → Q .non H') : rClear (.ref p) [] H Q := by
  obtain ⟨xs, hp, _, rl⟩ := m.sq
  obtain ⟨s, m'⟩ := Stp.mut (es := []) w m .nil
  exact ⟨p, xs, rfl, rfl, hp, h _ s m'⟩
end
theorem ExcT.toExcT {K : PySem.W.Frag} {mg : Str → Option Value} {nm : Str} {C : Addr} (T : ExcT K mg nm C) : ExcT K mg nm C := T
end Y

set_option Elab.async false
set_option linter.all false
set_option maxRecDepth 100000
set_option maxHeartbeats 4000000
namespace Y
open PySem PySem.Spec PyProof.Rows
open L2
open Enc (enc)
/-! # ints that the module names; divmod; x in a list of data -/
structure CI (mg : Str → Option Value) (nm : Str) (i : Int) : Prop where
  g : ∃ t, mg nm = Option.some (.int i t)
theorem pe_globI {X : Cx} {x : Str} {i : Int} {pos : Pos} (hg : Gl X x) (c : CI X.mg x i) (hd : (x == ("__debug__" : Str)) = false := by decide) : PE X (.Name x pos) (tC (.int i)) := by
  obtain ⟨t, h⟩ := c.g
  exact pe_glob (v := .int i) hg h ⟨t, rfl⟩ hd
theorem hu65_of {A : Around} {k : Nat} (hr : Room k A) : A.units + 65 < cLine := by have := hr.un; omega
def rDivmod : List V → Hp → VK → Prop := fun xs H Q => ∃ i j, xs = [.int i, .int j] ∧ CDiv i j ∧ ∀ p, H p = none → Q (.ref p) (upd H p (.tup [.int (i / j), .int (i % j)]))
theorem cr_divmod {X : Cx} : CallR X (.builtin "divmod") rDivmod := call_divmod
/-- x in l, of data -/
def inD (x : D) (l : List D) : Bool := (pyDs l).any fun z => PyData.eqv z (pyD x)
section
variable {K : PySem.W.Frag} {B H : Hp} {Q : VK} {x y : V} {d : D} {es : List D} {i j : Int}
theorem h_divmod (w : Ex B H) (hc : CDiv i j) (h : ∀ p B' H', Stp [] B H B' H' → Rep K B' (.ref p) (enc (⟨i / j, i % j⟩ : Tp2 Int Int)) → Q (.ref p) H') : rDivmod [.int i, .int j] H Q :=
  ⟨i, j, rfl, hc, fun p hp => h p _ _ (Stp.new w hp) (.tup (SqT.of upd_same) (.cons (.int _) (.cons (.int _) .nil)))⟩
theorem h_inD (w : Ex B H) (rx : Rep K B x d) (ry : Rep K B y (.lst es)) (o : okEq d (.lst es)) (h : Q (.bl (inD d es)) H) : rInD K x y H Q := ⟨_, _, rx.dp w o.1, ry.dp w o.2.1, o.2.2.1, o.2.2.2, h⟩
end
end Y
/-! # zip in comprehensions; str(o) by its own __str__; f-strings; texts one behind the other -/
namespace Y
open PySem PySem.Spec PyProof.Rows
open L2
open Enc (enc)
def zipL {α α' : Type} (l : List α) (m : List α') : List (Tp2 α α') := List.zipWith Tp2.mk l m
section
variable {K : PySem.W.Frag} {B H : Hp} {σ : L2.St} {Q : VK} {p p2 : Addr} {xs ys : List V} {g : TG} {tt : TT} {te : TE} {α α' β S R' : Type} {P : β → Prop} {R : Err → Prop}
def LcZ (K : PySem.W.Frag) (ws : List V) (g : TG) (tt : TT) (te : TE) (vs : List Nat) (σ : L2.St) (H : Hp) (Q : VK) : Prop := tLc (iZip K (fun _ H Q => Q ws H)) g tt te vs σ H Q
theorem h_lcZipE {vs : List Nat} {ta : TA} (h : ta σ H fun ws H1 => LcZ K ws g tt te vs σ H1 Q) : tLc (iZip K ta) g tt te vs σ H Q := h
theorem h_lcZip [Enc α] [Enc α'] {l : List α} {m : List α'} {s0 : S} {f : Tp2 α α' → S → Res (Option R' × S)} {k : List R' × S → Res β} {vs : List Nat} (hP : Post ((compR (zipL l m) s0 f).bind k) P R) (hs : SqL K H p xs) (hr : RepL K B xs (l.map Enc.enc)) (hs2 : SqL K H p2 ys) (hr2 : RepL K B ys (m.map Enc.enc))
    (J : Addr → List R' → S → Hp → Prop) (h0 : ∀ Dl, H Dl = none → J Dl [] s0 (upd H Dl (.lst []))) (hl : ∀ Dl acc s H', J Dl acc s H' → SqL K H' p xs ∧ SqL K H' p2 ys)
    (hb : ∀ (Dl : Addr) (N : Hp → Prop) (T : Option R' × S → Prop) (x : Tp2 α α') u u2 acc s H', J Dl acc s H' → Rep K B u (Enc.enc x.a) → Rep K B u2 (Enc.enc x.b) → acc.length < sizeLine → (∀ b s' H2, J Dl (acc ++ [b]) s' H2 → T (some b, s') → N H2) → (∀ s' H2, J Dl acc s' H2 → T (none, s') → N H2) → Post (f x s) T R →
      NewT [u, u2] H' fun v H1 => g v (wipe σ vs) H1 (LcT σ vs tt te Dl N))
    (hd : ∀ Dl acc s H', J Dl acc s H' → Post (k (acc, s)) P R → Q (.ref Dl) H') : LcZ K [.ref p, .ref p2] g tt te vs σ H Q := by
  refine ⟨p, p2, xs, ys, rfl, hs, hs2, fun Dl hD => ?_⟩
  unfold compR at hP
  have hll : xs.length = l.length := by rw [hr.length, List.length_map]
  have hll2 : ys.length = m.length := by rw [hr2.length, List.length_map]
  have hel : (zipL l m).length = min l.length m.length := by unfold zipL; rw [List.length_zipWith]
  have hz : (zipL l m).length ≤ 1000000 := by
    by_cases c : (zipL l m).length ≤ 1000000
    · exact c
    · unfold guardR at hP; rw [if_neg c] at hP; exact hP.elim
  unfold guardR at hP
  rw [if_pos hz] at hP
  refine lc_it (n := min xs.length ys.length) (walk_zip rfl) (fun i H' => ∃ acc s, J Dl acc s H' ∧ acc.length ≤ i ∧ Post ((compL ((zipL l m).drop i) s f).bind fun q => k (acc ++ q.1, q.2)) P R) ⟨[], s0, h0 Dl hD, Nat.le_refl _, hP⟩ (fun i H' _ ⟨acc, s, j, _⟩ => hl Dl acc s H' j) ?_ ?_
  · rintro i v H' H2 hi ⟨acc, s, j, hn, q⟩ ⟨T, y1, y2, rfl, hT, rfl, h1, h2⟩
    have h1 : xs[i]? = some y1 := h1
    have h2 : ys[i]? = some y2 := h2
    have hil : i < l.length := by omega
    have hil2 : i < m.length := by omega
    have hx : (zipL l m)[i]? = some ⟨l[i], m[i]⟩ := by
      unfold zipL
      rw [List.getElem?_zipWith, List.getElem?_eq_getElem hil, List.getElem?_eq_getElem hil2]
    obtain ⟨u, hu, ru⟩ := hr.get (i := i) (d := Enc.enc l[i]) (by rw [List.getElem?_map, List.getElem?_eq_getElem hil]; rfl)
    rw [h1] at hu; cases hu
    obtain ⟨u2, hu2, ru2⟩ := hr2.get (i := i) (d := Enc.enc m[i]) (by rw [List.getElem?_map, List.getElem?_eq_getElem hil2]; rfl)
    rw [h2] at hu2; cases hu2
    exact (hb Dl _ _ ⟨l[i], m[i]⟩ y1 y2 acc s H' j ru ru2 (Nat.lt_of_le_of_lt (Nat.le_trans hn (Nat.le_trans (by rw [hel]; omega) hz)) (by decide)) (fun b s' H2 j2 t2 => ⟨acc ++ [b], s', j2, by rw [List.length_append]; exact Nat.succ_le_succ hn, t2⟩) (fun s' H2 j2 t2 => ⟨acc, s', j2, Nat.le_succ_of_le hn, t2⟩) (q.compS hx)).2 T hT
  · rintro H' ⟨acc, s, j, _, q⟩
    rw [List.drop_eq_nil_of_le (by rw [hel, hll, hll2]; exact Nat.le_refl _)] at q
    have q2 : Post (k (acc ++ [], s)) P R := q
    rw [List.append_nil] at q2
    exact hd Dl acc s H' j q2
end
def rAddS : V → V → Hp → VK → Prop := fun x y H Q => ∃ i j, x = .str i ∧ y = .str j ∧ i.length + j.length ≤ sizeLine ∧ Q (.str (i ++ j)) H
theorem op_addS {X : Cx} : OpR X (binaryOp .Add) rAddS := op_add_str
theorem h_addS {H : Hp} {Q : VK} {i j : Str} (hz : i.length + j.length ≤ 1000000) (h : Q (.str (i ++ j)) H) : rAddS (.str i) (.str j) H Q := ⟨i, j, rfl, rfl, Nat.le_trans hz (by decide), h⟩
theorem h_fmt {te : TE} {σ : L2.St} {H : Hp} {Q : VK} (h : te σ H fun x H1 => (∃ y : Str, x = .str y ∧ y.length ≤ sizeLine ∧ Q (.str y) H1) ∨ ∃ i : Int, x = .int i ∧ i.natAbs.log2 < 1920 ∧ Q (.str (toString i)) H1) : tFmt te σ H Q := h
theorem h_js {t : TE} {ts : List TE} {acc : Str} {σ : L2.St} {H : Hp} {Q : Str → Hp → Prop} (h : t σ H fun x H1 => ∃ y : Str, x = .str y ∧ (acc ++ y).length ≤ sizeLine ∧ tJs ts (acc ++ y) σ H1 Q) : tJs (t :: ts) acc σ H Q := h
theorem h_jsS {ts : List TE} {acc y : Str} {σ : L2.St} {H : Hp} {Q : Str → Hp → Prop} (hz : (acc ++ y).length ≤ 1000000) (h : tJs ts (acc ++ y) σ H Q) : ∃ z : Str, V.str y = .str z ∧ (acc ++ z).length ≤ sizeLine ∧ tJs ts (acc ++ z) σ H Q := ⟨y, rfl, Nat.le_trans hz (by decide), h⟩
theorem h_jsN {acc : Str} {σ : L2.St} {H : Hp} {Q : Str → Hp → Prop} (h : Q acc H) : tJs [] acc σ H Q := h
def tJoin (ts : List TE) : TE := fun σ H Q => tJs ts Str.empty σ H fun out H1 => Q (.str out) H1
theorem h_join {ts : List TE} {σ : L2.St} {H : Hp} {Q : VK} (h : tJs ts Str.empty σ H fun out H1 => Q (.str out) H1) : tJoin ts σ H Q := h
/-- str(o), o of one of several classes -/
def rStrO (A : Addr → Sp → Prop) : List V → Hp → VK → Prop := fun vs H Q => ∃ (a C dx : Addr) (fs : List (Str × V)) (sp : Sp), vs = [V.ref a] ∧ H a = some (.ins C dx fs) ∧ A C sp ∧ sp [V.ref a] H (fun v H2 => ∃ y, v = .str y ∧ Q v H2) (fun _ _ _ => False)
theorem cr_strO {X : Cx} {A : Addr → Sp → Prop} {k : Nat} (hA : ∀ C sp, A C sp → MAlt X.prog X.w X.K X.mg X.base CX0 k "__str__" C sp) (hr : Room (k + 1) X.A) : CallR X (.type "str") (rStrO A) := by
  intro pins s σ H xs us Q I r h
  obtain ⟨a, C, dx, fs, sp, rfl, ea, hAC, q⟩ := h
  cases r with
  | cons r1 r2 =>
    cases r2
    obtain rfl : _ = Value.ref a := r1
    obtain ⟨f, fd, ps, c, hm, F, hb⟩ := (hA C sp hAC).ex
    obtain ⟨mA, O, _⟩ := ins_get I.hok ea
    obtain ⟨od, J, _⟩ := O.look
    have un := hr.un
    have dp := hr.dp
    refine PySem.W.kso_call (by show X.A.in1.in1.units < cLine; simp only [Around.in1]; omega) I.kIn J hm.at_ hm.fn ?_
    have hr' : Room k X.A.in1.in1 := ⟨hr.hd, by show X.A.depth + 3 * k + 5 < recursionLimit; omega, by simp only [Around.in1]; omega⟩
    have r2 : Vals [V.ref a] [Value.ref a] := .cons rfl .nil
    have hl : ([Value.ref a] ++ []).length = ps.length := F.len _ _ _ _ q
    refine wpAny_call (codeAny_mono (F.run X.A.in1.in1 X.stack s H ⟨[.ref a], []⟩ [.ref a] [V.ref a] _ _ hr' I.env0.in1.in1 (hb s [.ref a] I.kIn hl) r2 q) fun r s' hq => ?_)
    cases r with
    | error e => exact False.elim hq
    | ok fl =>
      cases fl with
      | ret u =>
        obtain ⟨v, H', I', rv, y, rfl, q2⟩ := I.after hq
        obtain ⟨t, rfl⟩ := rv
        exact ⟨.str y, H', I', ⟨t, rfl⟩, q2⟩
      | next => exact False.elim hq
      | brk => exact False.elim hq
      | cont => exact False.elim hq
theorem h_strO {A : Addr → Sp → Prop} {H : Hp} {Q : VK} {v : V} (h : ∃ (a C dx : Addr) (fs : List (Str × V)) (sp : Sp), v = .ref a ∧ H a = some (.ins C dx fs) ∧ A C sp ∧ sp [v] H (fun v H2 => ∃ y, v = .str y ∧ Q v H2) (fun _ _ _ => False)) : rStrO A [v] H Q := by
  obtain ⟨a, C, dx, fs, sp, rfl, q⟩ := h
  exact ⟨a, C, dx, fs, sp, rfl, q⟩
end Y

set_option Elab.async false
set_option linter.all false
set_option maxRecDepth 100000
set_option maxHeartbeats 4000000
/-! # lists within what was told, free at the entry: they may be written -/
namespace Y
open PySem PySem.Spec PyProof.Rows
open L2
open Enc (enc)
section
variable {K : PySem.W.Frag} {σ : L2.St} {H : Hp} {Q : VK} {g : TG} {tt : TT} {te : TE} {β S R' : Type} {P : β → Prop} {R : Err → Prop}
def LcR2 (ws : List V) (g : TG) (tt : TT) (te : TE) (vs : List Nat) (σ : L2.St) (H : Hp) (Q : VK) : Prop := tLc (iRng2 (fun _ H Q => Q ws H)) g tt te vs σ H Q
theorem h_lcR2E {vs : List Nat} {ta : TA} (h : ta σ H fun ws H1 => LcR2 ws g tt te vs σ H1 Q) : tLc (iRng2 ta) g tt te vs σ H Q := h
theorem h_lcR2 {lo hi : Int} {s0 : S} {f : Int → S → Res (Option R' × S)} {k : List R' × S → Res β} {vs : List Nat} (hP : Post ((compR (rngI lo hi) s0 f).bind k) P R)
    (J : Addr → List R' → S → Hp → Prop) (h0 : ∀ Dl, H Dl = none → J Dl [] s0 (upd H Dl (.lst [])))
    (hb : ∀ (Dl : Addr) (N : Hp → Prop) (T : Option R' × S → Prop) (x : Int) acc s H', J Dl acc s H' → lo ≤ x → x < hi → acc.length < sizeLine → (∀ b s' H2, J Dl (acc ++ [b]) s' H2 → T (some b, s') → N H2) → (∀ s' H2, J Dl acc s' H2 → T (none, s') → N H2) → Post (f x s) T R →
      g (.int x) (wipe σ vs) H' (LcT σ vs tt te Dl N))
    (hd : ∀ Dl acc s H', J Dl acc s H' → Post (k (acc, s)) P R → Q (.ref Dl) H') (hz2 : (-(2 ^ 62) ≤ lo ∧ lo < 2 ^ 62) ∧ -(2 ^ 62) ≤ hi ∧ hi < 2 ^ 62) : LcR2 [.int lo, .int hi] g tt te vs σ H Q := by
  unfold compR at hP
  have hz : (rngI lo hi).length ≤ 1000000 := by
    by_cases c : (rngI lo hi).length ≤ 1000000
    · exact c
    · unfold guardR at hP; rw [if_neg c] at hP; exact hP.elim
  unfold guardR at hP
  rw [if_pos hz] at hP
  rw [rngI_len] at hz
  refine ⟨lo, hi, rfl, ⟨hz2.1.1, hz2.1.2, hz2.2.1, hz2.2.2⟩, fun Dl hD => ?_⟩
  refine lc_range (lo := lo) (n := (hi - lo).toNat) (fun i H' => ∃ acc s, J Dl acc s H' ∧ acc.length ≤ i ∧ Post ((compL ((rngI lo hi).drop i) s f).bind fun q => k (acc ++ q.1, q.2)) P R) ⟨[], s0, h0 Dl hD, Nat.le_refl _, hP⟩ ?_ ?_
  · rintro i H' hi' ⟨acc, s, j, hn, q⟩
    have hx := rngI_get (lo := lo) (hi := hi) (i := i) (by omega)
    exact hb Dl _ _ (lo + (i : Int)) acc s H' j (by omega) (by omega) (Nat.lt_of_le_of_lt (Nat.le_trans hn (Nat.le_trans (Nat.le_of_lt hi') hz)) (by decide)) (fun b s' H2 j2 t2 => ⟨acc ++ [b], s', j2, by rw [List.length_append]; exact Nat.succ_le_succ hn, t2⟩) (fun s' H2 j2 t2 => ⟨acc, s', j2, Nat.le_succ_of_le hn, t2⟩) (q.compS hx)
  · rintro H' ⟨acc, s, j, _, q⟩
    rw [List.drop_eq_nil_of_le (by rw [rngI_len]; omega)] at q
    have q2 : Post (k (acc ++ [], s)) P R := q
    rw [List.append_nil] at q2
    exact hd Dl acc s H' j q2
end
abbrev Bx3 := Tp3 Int (List Int) Int
abbrev Ix3 := Tp3 Int Int (List Int)
section
variable {K : PySem.W.Frag} {B B' B0 H H' H0 : Hp} {Q : VK} {xs ys : List V} {ds : List D} {p q : Addr} {v y : V} {W : List Addr}
theorem h_nwLn (w : Ex B H) (r : RepL K B xs ds) (h : ∀ p B' H', H p = none → (∃ ws, B' p = some (.lst ws) ∧ RepL K B' ws ds) → Stp [] B H B' H' → Rep K B' (.ref p) (.lst ds) → Q (.ref p) H') : NwL xs H Q :=
  fun p hp => h p _ _ hp ⟨xs, upd_same, r.mono (Ex.new (w.none hp))⟩ (Stp.new w hp) (.lst (SqL.of upd_same) (r.mono (Ex.new (w.none hp))))
theorem h_newTn (w : Ex B H) (r : RepL K B xs ds) (h : ∀ p B' H', B' p = some (.tup xs) → Stp [] B H B' H' → Rep K B' (.ref p) (.tup ds) → Q (.ref p) H') (hn : xs.length ≤ sizeLine) : NewT xs H Q :=
  ⟨hn, fun p hp => h p _ _ upd_same (Stp.new w hp) (.tup (SqT.of upd_same) (r.mono (Ex.new (w.none hp))))⟩
/-- a list that stands in the known part -/
def BLst (K : PySem.W.Frag) (B : Hp) (p : Addr) (ds : List D) : Prop := ∃ ws, B p = some (.lst ws) ∧ RepL K B ws ds
theorem BLst.mono (h : BLst K B p ds) (e : Ex B B') : BLst K B' p ds := by
  obtain ⟨ws, h1, h2⟩ := h
  exact ⟨ws, e _ _ h1, h2.mono e⟩
theorem BLst.rep (h : BLst K B p ds) : Rep K B (.ref p) (.lst ds) := by
  obtain ⟨ws, h1, h2⟩ := h
  exact .lst (SqL.of h1) h2
/-- a box that was told: its body is new -/
def LB (K : PySem.W.Frag) (B H : Hp) (v : V) : Option Bx3 → Prop
  | none => v = .non
  | some x => ∃ t p, v = .ref t ∧ B t = some (.tup [.int x.a, .ref p, .int x.c]) ∧ BLst K B p (x.b.map enc) ∧ H p = none
theorem LB.rep {r : Option Bx3} (h : LB K B H v r) : Rep K B v (enc r) := by
  cases r with
  | none => rw [show v = .non from h]; exact .non
  | some x =>
    obtain ⟨t, p, rfl, ht, hp, _⟩ := h
    exact .tup (SqT.of ht) (.cons (.int _) (.cons hp.rep (.cons (.int _) .nil)))
theorem LB.mono {r : Option Bx3} (h : LB K B H v r) (e : Ex B B') : LB K B' H v r := by
  cases r with
  | none => exact h
  | some x =>
    obtain ⟨t, p, rfl, ht, hp, hn⟩ := h
    exact ⟨t, p, rfl, e _ _ ht, hp.mono e, hn⟩
def RetB (K : PySem.W.Frag) (B H : Hp) (r : Option Bx3) (Q : VK) : Prop := ∀ v B' H', Stp [] B H B' H' → LB K B' H v r → Q v H'
/-- boxes that were told -/
def LX (K : PySem.W.Frag) (B H : Hp) (q : Addr) (v : V) (x : Ix3) : Prop := ∃ t p, v = .ref t ∧ B t = some (.tup [.int x.a, .int x.b, .ref p]) ∧ BLst K B p (x.c.map enc) ∧ H p = none ∧ p ≠ q
inductive LXs (K : PySem.W.Frag) (B H : Hp) (q : Addr) : List V → List Ix3 → Prop where
  | nil : LXs K B H q [] []
  | cons {v : V} {x : Ix3} {vs : List V} {l : List Ix3} (h : LX K B H q v x) (t : LXs K B H q vs l) : LXs K B H q (v :: vs) (x :: l)
theorem LX.rep {x : Ix3} (h : LX K B H q v x) : Rep K B v (enc x) := by
  obtain ⟨t, p, rfl, ht, hp, _⟩ := h
  exact .tup (SqT.of ht) (.cons (.int _) (.cons (.int _) (.cons hp.rep .nil)))
theorem LX.mono {x : Ix3} (h : LX K B H q v x) (e : Ex B B') : LX K B' H q v x := by
  obtain ⟨t, p, rfl, ht, hp, hn⟩ := h
  exact ⟨t, p, rfl, e _ _ ht, hp.mono e, hn⟩
theorem LXs.rep : ∀ {vs : List V} {l : List Ix3}, LXs K B H q vs l → RepL K B vs (l.map enc)
  | _, _, .nil => .nil
  | _, _, .cons h t => .cons h.rep t.rep
theorem LXs.mono (e : Ex B B') : ∀ {vs : List V} {l : List Ix3}, LXs K B H q vs l → LXs K B' H q vs l
  | _, _, .nil => .nil
  | _, _, .cons h t => .cons (h.mono e) (LXs.mono e t)
theorem LXs.snoc {x : Ix3} (h : LX K B H q v x) : ∀ {vs : List V} {l : List Ix3}, LXs K B H q vs l → LXs K B H q (vs ++ [v]) (l ++ [x])
  | _, _, .nil => .cons h .nil
  | _, _, .cons g t => .cons g (LXs.snoc h t)
def FaX (K : PySem.W.Frag) (B H H' : Hp) (q : Addr) (l : List Ix3) : Prop := B q = none ∧ ∃ xs, H' q = some (.lst xs) ∧ LXs K B H q xs l
theorem FaX.mu {l : List Ix3} (f : FaX K B H0 H q l) : Mu K B H q (l.map enc) := by
  obtain ⟨hb, xs, hq, r⟩ := f
  exact ⟨hb, xs, hq, r.rep⟩
theorem FaX.nil (w : Ex B H) (h : H q = none) : FaX K B H0 (upd H q (.lst [])) q [] := ⟨w.none h, [], upd_same, .nil⟩
theorem FaX.step {l : List Ix3} (f : FaX K B H0 H q l) (s : Stp W B H B' H') (h : q ∉ W) : FaX K B' H0 H' q l := by
  obtain ⟨hb, xs, hq, r⟩ := f
  exact ⟨s.nw _ _ hb hq, xs, s.fr _ _ h hq, r.mono s.ex⟩
def RetX (K : PySem.W.Frag) (B H : Hp) (r : List Ix3) (Q : VK) : Prop := ∀ q B' H', Stp [] B H B' H' → H q = none → FaX K B' H H' q r → Q (.ref q) H'
theorem h_newX (w : Ex B H) (h : ∀ p H', H p = none → Stp [] B H B H' → FaX K B H0 H' p [] → Q (.ref p) H') : NewL [] H Q :=
  ⟨Nat.zero_le _, fun p hp => h p _ hp (Stp.newM w hp) (FaX.nil w hp)⟩
theorem h_appX {l : List Ix3} {b : Ix3} (w : Ex B H) (f : FaX K B H0 H q l) (ry : LX K B H0 q y b) (hz : l.length < 1000000) (h : ∀ H', Stp [q] B H B H' → FaX K B H0 H' q (l ++ [b]) → Q .non H') : rAppend (.ref q) [y] H Q := by
  have m := f.mu
  obtain ⟨hb, xs, hp, hr⟩ := f
  have hlen : xs.length = l.length := by rw [hr.rep.length, List.length_map]
  refine ⟨q, xs, y, rfl, rfl, hp, by rw [hlen]; exact Nat.lt_of_lt_of_le hz (by decide), ?_⟩
  have r2 := hr.snoc ry
  obtain ⟨s, _⟩ := Stp.mut w m r2.rep
  exact h _ s ⟨hb, xs ++ [y], upd_same, r2⟩
/-! ### and now they are written, and never read again -/
theorem Stp.back (a : Stp W B H B' H') : Stp W B H B H' := ⟨Ex.refl B, a.ex.trans a.ok, a.fr, a.al, fun _ _ h _ => h⟩
theorem Stp.wr {o : HO} (a : Stp W B H B H') (h0 : H p = none) (w : Ex B H) (h : ∃ u, H' p = some u) : Stp W B H B (upd H' p o) := a.own h0 (w.none h0) h
/-- one of them, somewhen -/
def RvE (H0 H : Hp) (q : Addr) (M : Nat) (v : V) : Prop := ∃ t a b p zs, v = .ref t ∧ H t = some (.tup [.int a, .int b, .ref p]) ∧ H p = some (.lst ((zs : List Int).map V.int)) ∧ zs.length ≤ M ∧ H0 p = none ∧ p ≠ q
theorem ints_of : ∀ {vs : List V} {zs : List Int}, RepL K B vs (zs.map enc) → vs = zs.map V.int
  | _, [], .nil => rfl
  | _, z :: zs, .cons h t => by
    cases h
    rw [ints_of t]
    rfl
theorem repL_ints : ∀ (zs : List Int), RepL K B (zs.map V.int) (zs.map enc)
  | [] => .nil
  | z :: zs => .cons (.int z) (repL_ints zs)
theorem LXs.rv (w : Ex B H) {M : Nat} : ∀ {vs : List V} {l : List Ix3}, LXs K B H0 q vs l → (∀ x ∈ l, x.c.length ≤ M) → ∀ v ∈ vs, RvE H0 H q M v
  | _, _, .nil, _ => fun _ m => nomatch m
  | _, x :: l, .cons h t, hM => fun v m => by
    rcases List.mem_cons.mp m with rfl | m
    · obtain ⟨t, p, rfl, ht, ⟨ws, e1, e2⟩, hn, ne⟩ := h
      rw [ints_of e2] at e1
      exact ⟨t, x.a, x.b, p, x.c, rfl, w _ _ ht, w _ _ e1, hM x List.mem_cons_self, hn, ne⟩
    · exact LXs.rv w t (fun y m => hM y (List.mem_cons_of_mem _ m)) v m
/-- where each turn may write one of them -/
def Rav (B H H' : Hp) (q : Addr) (xs : List V) (M : Nat) : Prop := Stp [] B H B H' ∧ H' q = some (.lst xs) ∧ ∀ v ∈ xs, RvE H H' q M v
theorem Rav.wr {M : Nat} {t p : Addr} {a b : Int} {zs : List Int} (w : Ex B H) (r : Rav B H H' q xs M) (hp : H' p = some (.lst (zs.map V.int))) (hz : zs.length ≤ M) (h0 : H p = none) (ne : p ≠ q) : Rav B H (upd H' p (.lst ((zs ++ [0]).map V.int))) q xs (M + 1) := by
  obtain ⟨s, hq, hv⟩ := r
  refine ⟨s.wr h0 w ⟨_, hp⟩, by rw [upd_ne ne.symm]; exact hq, fun v m => ?_⟩
  obtain ⟨t, a, b, p2, z2, rfl, ht, hp2, hz2, h2, n2⟩ := hv v m
  have tp : t ≠ p := fun e => by rw [e, hp] at ht; exact nomatch ht
  by_cases e : p2 = p
  · subst e
    exact ⟨t, a, b, p2, zs ++ [0], rfl, by rw [upd_ne tp]; exact ht, upd_same, by rw [List.length_append]; exact Nat.succ_le_succ hz, h2, n2⟩
  · exact ⟨t, a, b, p2, z2, rfl, by rw [upd_ne tp]; exact ht, by rw [upd_ne e]; exact hp2, Nat.le_succ_of_le hz2, h2, n2⟩
theorem h_forRav {g : TG} {tb : TS} {D' : Ends} {σ : L2.St} {M n : Nat} (w : Ex B H) (r : Rav B H H' q xs M) (hn : xs.length = n) (hM : M + n < 1000000) (S : Option V → L2.St) (hσ : ∃ o, σ = S o)
    (hb : ∀ (N : L2.St → Hp → Prop) (t p : Addr) (a b : Int) (zs : List Int) (o : Option V) H2, H2 t = some (.tup [.int a, .int b, .ref p]) → H2 p = some (.lst (zs.map V.int)) → zs.length < 1000000 →
      (∀ o', N (S o') (upd H2 p (.lst ((zs ++ [0]).map V.int)))) → g (.ref t) (S o) H2 fun σ2 H2 => tb { D' with nx := N, ct := N, bk := D'.nx } σ2 H2)
    (hd : ∀ o H2, Stp [] B H B H2 → H2 q = some (.lst xs) → D'.nx (S o) H2) : tFor (iList K (tC (.ref q))) g tb D' σ H' := by
  refine ⟨q, rfl, ⟨xs, SqL.of r.2.1⟩, for_list (K := K) (a := q) (xs := xs) (fun i σ' H2 => (∃ o, σ' = S o) ∧ Rav B H H2 q xs (M + i)) ⟨hσ, r⟩ (fun i σ' H2 _ ⟨_, j⟩ => SqL.of j.2.1) ?_ ?_⟩
  · rintro i v σ' H2 hi ⟨⟨o, rfl⟩, j⟩
    have hil := (List.getElem?_eq_some_iff.mp hi).1
    obtain ⟨t, a, b, p, zs, rfl, ht, hp, hz, h0, ne⟩ := j.2.2 v (List.mem_of_getElem? hi)
    exact hb _ t p a b zs o H2 ht hp (by omega) fun o' => ⟨⟨o', rfl⟩, j.wr (t := t) (a := a) (b := b) w hp hz h0 ne⟩
  · rintro σ' H2 ⟨⟨o, rfl⟩, j⟩
    exact hd o H2 j.1 j.2.1
theorem h_bmR {r : V → List V → Hp → VK → Prop} {t : TA} {σ : L2.St} (h : H p = some (.lst xs)) (g : t σ H fun ys H2 => r (.ref p) ys H2 Q) : Bm K "list" r t σ (.ref p) H Q := ⟨.inl ⟨rfl, _, .inl (.inl h)⟩, g⟩
theorem h_bmR0 {r : V → List V → Hp → VK → Prop} {σ : L2.St} (h : H p = some (.lst xs)) (g : r (.ref p) [] H Q) : Bm0 K "list" r σ (.ref p) H Q := ⟨.inl ⟨rfl, _, .inl (.inl h)⟩, g⟩
theorem h_appR (h : H p = some (.lst xs)) (hz : xs.length < 1000000) (g : Q .non (upd H p (.lst (xs ++ [y])))) : rAppend (.ref p) [y] H Q := ⟨p, xs, y, rfl, rfl, h, Nat.lt_of_lt_of_le hz (by decide), g⟩
theorem h_revR (h : H p = some (.lst xs)) (g : Q .non (upd H p (.lst xs.reverse))) : rReverse (.ref p) [] H Q := ⟨p, xs, rfl, rfl, h, g⟩
theorem h_revRv (h : H p = some (.lst xs)) (s : Stp [] B H0 B H) (w : Ex B H0) (h0 : H0 p = none) (g : ∀ H', Stp [] B H0 B H' → H' p = some (.lst xs.reverse) → Q .non H') : rReverse (.ref p) [] H Q :=
  h_revR h (g _ (s.wr h0 w ⟨_, h⟩) upd_same)
theorem h_appRv (h : H p = some (.lst xs)) (hz : xs.length < 1000000) (s : Stp [] B H0 B H) (w : Ex B H0) (h0 : H0 p = none) (g : ∀ H', Stp [] B H0 B H' → H' p = some (.lst (xs ++ [y])) → Q .non H') : rAppend (.ref p) [y] H Q :=
  h_appR h hz (g _ (s.wr h0 w ⟨_, h⟩) upd_same)
theorem Rav.start {B1 H1 : Hp} {l : List Ix3} (s : Stp [] B H B1 H1) (fx : FaX K B1 H H1 q l) (gd : (l.all fun x => decide (x.c.length + l.length < 999999)) = true) : ∃ xs M, Rav B H H1 q xs M ∧ xs.length = l.length ∧ M + l.length < 1000000 := by
  obtain ⟨hb, xs, hq, r⟩ := fx
  have hl : xs.length = l.length := by rw [r.rep.length, List.length_map]
  have hg : ∀ x ∈ l, x.c.length + l.length < 999999 := fun x m => of_decide_eq_true (List.all_eq_true.mp gd x m)
  refine ⟨xs, 999999 - l.length, ⟨s.back, hq, r.rv s.ok fun x m => by have := hg x m; omega⟩, hl, ?_⟩
  cases l with
  | nil => decide
  | cons x l =>
    have := hg x List.mem_cons_self
    omega
theorem isA_tup3 {a b : Int} {zs : List Int} : isA "tuple" (enc (⟨a, b, zs⟩ : Ix3)) = true := (by decide +kernel : isS "tuple" "tuple" = true)
theorem isA_lst1 {zs : List Int} : isA "list" (enc zs) = true := (by decide +kernel : isS "list" "list" = true)
end
end Y

set_option Elab.async false
set_option linter.all false
set_option maxRecDepth 100000
set_option maxHeartbeats 4000000
namespace A
open PySem PySem.Spec PyProof.Rows L2 Y
open Y.Enc (enc)
abbrev top (i : Nat) : Stmt := PySem.Challenge.pw_lanescroll_k35_boxes_in_any_bytes.main.body.getD i (.Pass ⟨0, 0, 0, 0⟩)
def isWhole (d : D) (lo hi : Int) : Bool := match d with
  | .int i => decide (lo ≤ i) && decide (i ≤ hi)
  | _ => false
def m_is_whole (d : D) (lo hi : Int) : Res Bool := .ok (isWhole d lo hi)
/-! ### is_whole -/
def sp_is_whole (K : PySem.W.Frag) : Sp := fun vs H Q _ => ∃ (B : Hp) (v_thing : V) (a_thing : D) (a_low : Int) (a_high : Int), Ex B H ∧ vs = [v_thing, .int a_low, .int a_high] ∧ Rep K B v_thing (enc a_thing) ∧ Post (m_is_whole a_thing a_low a_high) (fun r => Ret K [] B H (enc r) Q) (fun _ => False)
abbrev s_is_whole : Stmt := top 6
theorem sc_is_whole : FnScope ["thing", "low", "high"] ["thing", "low", "high"] (defScope s_is_whole) := ⟨rfl, rfl, rfl, by decide +kernel, rfl, by decide +kernel, by decide +kernel⟩
/-! ### is_bytes -/
def m_is_bytes (a_thing : D) : Res Bool :=
  (if (isA "list" a_thing) = true then (asL a_thing).bind fun l1 => (compR (l1) (() : Unit) (fun x11 (a15 : Unit) => (m_is_whole x11 0 255).bind fun x27 => .ok (some x27, ()))).bind <| un2 fun acc14 a15 => .ok (acc14.all id) else .ok false)
def sp_is_bytes (K : PySem.W.Frag) : Sp := fun vs H Q _ => ∃ (B : Hp) (v_thing : V) (a_thing : D), Ex B H ∧ vs = [v_thing] ∧ Rep K B v_thing (enc a_thing) ∧ Post (m_is_bytes a_thing) (fun r => Ret K [] B H (enc r) Q) (fun _ => False)
abbrev s_is_bytes : Stmt := top 7
theorem sc_is_bytes : FnScope ["thing", "byte"] ["thing"] (defScope s_is_bytes) := ⟨rfl, rfl, rfl, by decide +kernel, rfl, by decide +kernel, by decide +kernel⟩
/-! ### sure_row -/
def m_sure_row (a_row : D) : Res Unit :=
  ((m_is_bytes a_row).noErr).bind fun x1 => (if x1 = true then .ok () else .err ⟨"NoBytes", []⟩)
def sp_sure_row (K : PySem.W.Frag) (mg : Str → Option Value) : Sp := fun vs H Q E => ∃ (B : Hp) (v_row : V) (a_row : D), Ex B H ∧ vs = [v_row] ∧ Rep K B v_row (enc a_row) ∧ Post (m_sure_row a_row) (fun r => Ret K [] B H (enc r) Q) (fun e => Rai mg [] B H e E)
abbrev s_sure_row : Stmt := top 10
theorem sc_sure_row : FnScope ["row"] ["row"] (defScope s_sure_row) := ⟨rfl, rfl, rfl, by decide +kernel, rfl, by decide +kernel, by decide +kernel⟩
/-! ### number_at -/
def m_number_at (a_row : (List Int)) (a_at : Int) : Res (Option (Tp2 Int Int)) :=
  guardR (okEq (enc (cutL a_row (some a_at) (some (a_at + 1)))) (enc ([128] : List Int))) <| (if (eqD (enc (cutL a_row (some a_at) (some (a_at + 1)))) (enc ([128] : List Int))) = true then .ok none else (whileR (a_row.length + 1) ((0, a_at) : Int × Int) (fun (a24 : Int × Int) => (if (decide (a24.2 < (a_row.length : Int))) = true then (ixR a_row a24.2).bind fun x36 => lt (((a24.1 * 128) + (x36 % 128)) : Int) fun x40 => lt ((a24.2 + 1) : Int) fun x41 => (if (decide (1000000000000000000000000000000000000000000000000000000000000 < x40)) = true then .ok (.rt none) else (ixR a_row (x41 - 1)).bind fun x46 => (if (decide (x46 < 128)) = true then .ok (.rt (some (⟨x40, x41⟩ : (Tp2 Int Int)))) else .ok (.nx (x40, x41)))) else .ok (.bk (a24.1, a24.2))))).bind (afterR fun a55 => .ok none))
def sp_number_at (K : PySem.W.Frag) : Sp := fun vs H Q _ => ∃ (B : Hp) (v_row : V) (a_row : (List Int)) (a_at : Int), Ex B H ∧ vs = [v_row, .int a_at] ∧ Rep K B v_row (enc a_row) ∧ Post (m_number_at a_row a_at) (fun r => Ret K [] B H (enc r) Q) (fun _ => False)
abbrev s_number_at : Stmt := top 11
theorem sc_number_at : FnScope ["row", "at", "number"] ["row", "at"] (defScope s_number_at) := ⟨rfl, rfl, rfl, by decide +kernel, rfl, by decide +kernel, by decide +kernel⟩
/-! ### check -/
def m_check (a_row : (List Int)) : Res Int :=
  ((m_sure_row (enc a_row)).noErr).bind fun x1 => (forR (a_row) (1 : Int) (fun x19 (a18 : Int) => lt ((((a18 * 257) + x19) % 65521) : Int) fun x26 => .ok (.nx x26))).bind (afterR fun a27 => .ok a27)
def sp_check (K : PySem.W.Frag) : Sp := fun vs H Q _ => ∃ (B : Hp) (v_row : V) (a_row : (List Int)), Ex B H ∧ vs = [v_row] ∧ Rep K B v_row (enc a_row) ∧ Post (m_check a_row) (fun r => Ret K [] B H (enc r) Q) (fun _ => False)
abbrev s_check : Stmt := top 12
theorem sc_check : FnScope ["row", "found", "byte"] ["row"] (defScope s_check) := ⟨rfl, rfl, rfl, by decide +kernel, rfl, by decide +kernel, by decide +kernel⟩
/-! ### noughts_behind -/
def m_noughts_behind (a_noughts : Int) (a_byte : Int) : Res Int :=
  ((if (decide (a_byte = 0)) = true then .ok (a_noughts + 1) else .ok 0) : Res (Int)).bind fun a4 => .ok a4
def sp_noughts_behind (K : PySem.W.Frag) : Sp := fun vs H Q _ => ∃ (B : Hp) (a_noughts : Int) (a_byte : Int), Ex B H ∧ vs = [.int a_noughts, .int a_byte] ∧ Post (m_noughts_behind a_noughts a_byte) (fun r => Ret K [] B H (enc r) Q) (fun _ => False)
abbrev s_noughts_behind : Stmt := top 13
theorem sc_noughts_behind : FnScope ["noughts", "byte"] ["noughts", "byte"] (defScope s_noughts_behind) := ⟨rfl, rfl, rfl, by decide +kernel, rfl, by decide +kernel, by decide +kernel⟩
/-! ### unstuffed_from -/
def m_unstuffed_from (a_row : (List Int)) (a_at : Int) (a_many : Int) : Res (Option (Tp2 (List Int) Int)) :=
  (whileR (a_row.length + 1) ((a_at, 0, ([] : List Int)) : Int × Int × (List Int)) (fun (a16 : Int × Int × (List Int)) => (if (decide ((a16.2.2.length : Int) < a_many)) = true then (if (decide (a16.1 = (a_row.length : Int))) = true then .ok (.rt none) else (ixR a_row a16.1).bind fun x33 => lt ((a16.1 + 1) : Int) fun x37 => (if (decide (a16.2.1 < 2)) = true then guardR (a16.2.2.length < 1000000) <| (m_noughts_behind a16.2.1 x33).bind fun x40 => .ok (.nx (x37, x40, (a16.2.2 ++ [x33]))) else (if (decide (x33 = 2)) = true then .ok (.nx (x37, 0, a16.2.2)) else .ok (.rt none)))) else (if (decide (a16.2.1 = 2)) = true then (if (decide (a16.1 = (a_row.length : Int))) = true then .ok (.rt none) else (ixR a_row a16.1).bind fun x54 => lt ((a16.1 + 1) : Int) fun x58 => (if (decide (a16.2.1 < 2)) = true then guardR (a16.2.2.length < 1000000) <| (m_noughts_behind a16.2.1 x54).bind fun x61 => .ok (.nx (x58, x61, (a16.2.2 ++ [x54]))) else (if (decide (x54 = 2)) = true then .ok (.nx (x58, 0, a16.2.2)) else .ok (.rt none)))) else .ok (.bk (a16.1, a16.2.1, a16.2.2)))))).bind (afterR fun a67 => .ok (some (⟨a67.2.2, a67.1⟩ : (Tp2 (List Int) Int))))
def sp_unstuffed_from (K : PySem.W.Frag) : Sp := fun vs H Q _ => ∃ (B : Hp) (v_row : V) (a_row : (List Int)) (a_at : Int) (a_many : Int), Ex B H ∧ vs = [v_row, .int a_at, .int a_many] ∧ Rep K B v_row (enc a_row) ∧ Post (m_unstuffed_from a_row a_at a_many) (fun r => Ret K [] B H (enc r) Q) (fun _ => False)
abbrev s_unstuffed_from : Stmt := top 14
theorem sc_unstuffed_from : FnScope ["row", "at", "many", "found", "noughts", "byte"] ["row", "at", "many"] (defScope s_unstuffed_from) := ⟨rfl, rfl, rfl, by decide +kernel, rfl, by decide +kernel, by decide +kernel⟩
/-! ### check_bytes -/
def m_check_bytes (a_kind : Int) (a_body : (List Int)) : Res (List Int) :=
  guardR (([a_kind] : List Int).length + a_body.length ≤ 1000000) <| (m_check (([a_kind] : List Int) ++ a_body)).bind fun x19 => .ok ([(⟨x19 / 256, x19 % 256⟩ : (Tp2 Int Int)).a, (⟨x19 / 256, x19 % 256⟩ : (Tp2 Int Int)).b] : List Int)
def sp_check_bytes (K : PySem.W.Frag) : Sp := fun vs H Q _ => ∃ (B : Hp) (a_kind : Int) (v_body : V) (a_body : (List Int)), Ex B H ∧ vs = [.int a_kind, v_body] ∧ Rep K B v_body (enc a_body) ∧ Post (m_check_bytes a_kind a_body) (fun r => Ret K [] B H (enc r) Q) (fun _ => False)
abbrev s_check_bytes : Stmt := top 19
theorem sc_check_bytes : FnScope ["kind", "body"] ["kind", "body"] (defScope s_check_bytes) := ⟨rfl, rfl, rfl, by decide +kernel, rfl, by decide +kernel, by decide +kernel⟩
/-! ### stands_start -/
def m_stands_start (a_row : (List Int)) (a_at : Int) : Res Bool :=
  guardR (okEq (enc (cutL a_row (some a_at) (some (a_at + 3)))) (enc ([(⟨0, 0, 1⟩ : (Tp3 Int Int Int)).a, (⟨0, 0, 1⟩ : (Tp3 Int Int Int)).b, (⟨0, 0, 1⟩ : (Tp3 Int Int Int)).c] : List Int))) <| .ok (eqD (enc (cutL a_row (some a_at) (some (a_at + 3)))) (enc ([(⟨0, 0, 1⟩ : (Tp3 Int Int Int)).a, (⟨0, 0, 1⟩ : (Tp3 Int Int Int)).b, (⟨0, 0, 1⟩ : (Tp3 Int Int Int)).c] : List Int)))
def sp_stands_start (K : PySem.W.Frag) : Sp := fun vs H Q _ => ∃ (B : Hp) (v_row : V) (a_row : (List Int)) (a_at : Int), Ex B H ∧ vs = [v_row, .int a_at] ∧ Rep K B v_row (enc a_row) ∧ Post (m_stands_start a_row a_at) (fun r => Ret K [] B H (enc r) Q) (fun _ => False)
abbrev s_stands_start : Stmt := top 20
theorem sc_stands_start : FnScope ["row", "at"] ["row", "at"] (defScope s_stands_start) := ⟨rfl, rfl, rfl, by decide +kernel, rfl, by decide +kernel, by decide +kernel⟩
/-! ### starts_in -/
def m_starts_in (a_row : (List Int)) : Res (List Int) :=
  guardR (-(2 ^ 62) ≤ (((a_row.length : Int) - 2) : Int)) <| (compR (rngI 0 ((a_row.length : Int) - 2)) (() : Unit) (fun x9 (a13 : Unit) => (ixR a_row x9).bind fun x29 => (if (decide (x29 = 0)) = true then (m_stands_start a_row x9).bind fun x33 => (if x33 = true then .ok (some x9, ()) else .ok (none, ())) else .ok (none, ())))).bind <| un2 fun acc12 a13 => .ok acc12
def sp_starts_in (K : PySem.W.Frag) : Sp := fun vs H Q _ => ∃ (B : Hp) (v_row : V) (a_row : (List Int)), Ex B H ∧ vs = [v_row] ∧ Rep K B v_row (enc a_row) ∧ Post (m_starts_in a_row) (fun r => Ret K [] B H (enc r) Q) (fun _ => False)
abbrev s_starts_in : Stmt := top 21
theorem sc_starts_in : FnScope ["row", "at"] ["row"] (defScope s_starts_in) := ⟨rfl, rfl, rfl, by decide +kernel, rfl, by decide +kernel, by decide +kernel⟩
/-! ### size_at -/
def m_size_at (a_row : (List Int)) (a_at : Int) : Res (Option (Tp2 Int Int)) :=
  (forR ([(⟨1, 2, 3⟩ : (Tp3 Int Int Int)).a, (⟨1, 2, 3⟩ : (Tp3 Int Int Int)).b, (⟨1, 2, 3⟩ : (Tp3 Int Int Int)).c]) (() : Unit) (fun x19 (a18 : Unit) => (m_unstuffed_from a_row a_at x19).bind fun x28 => (if (isNonD (enc x28)) = true then .ok (.rt none) else (someR x28).bind fun x34 => (m_number_at x34.a 0).bind fun x43 => (if (!(isNonD (enc x43))) = true then .ok (.rt x43) else .ok (.nx ()))))).bind (afterR fun a49 => .ok none)
def sp_size_at (K : PySem.W.Frag) : Sp := fun vs H Q _ => ∃ (B : Hp) (v_row : V) (a_row : (List Int)) (a_at : Int), Ex B H ∧ vs = [v_row, .int a_at] ∧ Rep K B v_row (enc a_row) ∧ Post (m_size_at a_row a_at) (fun r => Ret K [] B H (enc r) Q) (fun _ => False)
abbrev s_size_at : Stmt := top 22
theorem sc_size_at : FnScope ["row", "at", "many", "head", "size"] ["row", "at"] (defScope s_size_at) := ⟨rfl, rfl, rfl, by decide +kernel, rfl, by decide +kernel, by decide +kernel⟩
/-! ### box_there -/
def m_box_there (a_row : (List Int)) (a_at : Int) : Res (Option (Tp3 Int (List Int) Int)) :=
  (m_stands_start a_row a_at).bind fun x1 => (if x1 = true then (if (decide ((a_row.length : Int) ≤ (a_at + 3))) = true then .ok none else (ixR a_row (a_at + 3)).bind fun x15 => (if (decide (1 ≤ x15)) = true then (if (decide (x15 ≤ 9)) = true then (m_size_at a_row (a_at + 4)).bind fun x19 => (if (isNonD (enc x19)) = true then .ok none else (someR x19).bind fun x25 => (if (decide (60000 < x25.a)) = true then .ok none else (someR x19).bind fun x34 => (someR x19).bind fun x43 => (m_unstuffed_from a_row (a_at + 4) ((x34.b + x43.a) + 2)).bind fun x52 => (if (isNonD (enc x52)) = true then .ok none else (ixR a_row (a_at + 3)).bind fun x62 => (someR x52).bind fun x66 => (someR x19).bind fun x75 => (someR x52).bind fun x93 => guardR (okEq (enc (cutL a_row (some x93.b) (some (x93.b + 1)))) (enc ([255] : List Int))) <| (if (!(eqD (enc (cutL a_row (some x93.b) (some (x93.b + 1)))) (enc ([255] : List Int)))) = true then .ok none else (someR x52).bind fun x116 => (m_check_bytes x62 (cutL x66.a (some x75.b) (some (-2)))).bind fun x134 => guardR (okEq (enc (cutL x116.a (some (-2)) none)) (enc x134)) <| (if (!(eqD (enc (cutL x116.a (some (-2)) none)) (enc x134))) = true then .ok none else .ok (some (⟨x62, (cutL x66.a (some x75.b) (some (-2))), (x93.b + 1)⟩ : (Tp3 Int (List Int) Int)))))))) else .ok none) else .ok none)) else .ok none)
def sp_box_there (K : PySem.W.Frag) : Sp := fun vs H Q _ => ∃ (B : Hp) (v_row : V) (a_row : (List Int)) (a_at : Int), Ex B H ∧ vs = [v_row, .int a_at] ∧ Rep K B v_row (enc a_row) ∧ Post (m_box_there a_row a_at) (fun r => RetB K B H r Q) (fun _ => False)
abbrev s_box_there : Stmt := top 23
theorem sc_box_there : FnScope ["row", "at", "size", "content", "kind", "body", "end"] ["row", "at"] (defScope s_box_there) := ⟨rfl, rfl, rfl, by decide +kernel, rfl, by decide +kernel, by decide +kernel⟩
/-! ### boxes_in__any -/
def m_boxes_in__any (a_row : D) : Res D :=
  (m_sure_row a_row).bind fun x1 => .stuck
def sp_boxes_in__any (K : PySem.W.Frag) (mg : Str → Option Value) : Sp := fun vs H Q E => ∃ (B : Hp) (v_row : V) (a_row : D), Ex B H ∧ vs = [v_row] ∧ Rep K B v_row (enc a_row) ∧ Post (m_boxes_in__any a_row) (fun r => Ret K [] B H (enc r) Q) (fun e => Rai mg [] B H e E)
abbrev s_boxes_in__any : Stmt := top 24
theorem sc_boxes_in__any : FnScope ["row", "found", "at", "there"] ["row"] (defScope s_boxes_in__any) := ⟨rfl, rfl, rfl, by decide +kernel, rfl, by decide +kernel, by decide +kernel⟩
/-! ### boxes_in -/
def m_boxes_in (a_row : (List Int)) : Res (List (Tp3 Int Int (List Int))) :=
  ((m_sure_row (enc a_row)).noErr).bind fun x1 => (m_starts_in a_row).bind fun x13 => (forR (x13) (([] : List (Tp3 Int Int (List Int))) : (List (Tp3 Int Int (List Int)))) (fun x31 (a30 : (List (Tp3 Int Int (List Int)))) => (m_box_there a_row x31).bind fun x39 => (if (!(isNonD (enc x39))) = true then (someR x39).bind fun x45 => (someR x39).bind fun x54 => guardR (a30.length < 1000000) <| .ok (.nx (a30 ++ [(⟨x31, x45.a, x54.b⟩ : (Tp3 Int Int (List Int)))])) else .ok (.nx a30)))).bind (afterR fun a70 => .ok a70)
def sp_boxes_in (K : PySem.W.Frag) : Sp := fun vs H Q _ => ∃ (B : Hp) (v_row : V) (a_row : (List Int)), Ex B H ∧ vs = [v_row] ∧ Rep K B v_row (enc a_row) ∧ Post (m_boxes_in a_row) (fun r => RetX K B H r Q) (fun _ => False)
abbrev s_boxes_in : Stmt := top 24
theorem sc_boxes_in : FnScope ["row", "found", "at", "there"] ["row"] (defScope s_boxes_in) := ⟨rfl, rfl, rfl, by decide +kernel, rfl, by decide +kernel, by decide +kernel⟩
/-! ### _law_digit -/
def l_digit (a_state : (List Int)) (a_base : Int) : Res (Int × (List Int)) :=
  ((if (decide ((a_state.length : Int) = 1)) = true then (ixR a_state 0).bind fun x12 => guardR (a_state.length + ([(x12 % 2147483647), 0] : List Int).length ≤ 1000000) <| .ok (a_state ++ ([(x12 % 2147483647), 0] : List Int)) else .ok a_state) : Res ((List Int))).bind fun a26 => (ixR a26 0).bind fun x34 => (if (decide (a_base ≤ x34)) = true then (ixR a26 0).bind fun x42 => guardR (0 < a_base) <| lt ((x42 % a_base) : Int) fun x46 => (ixR a26 0).bind fun x51 => guardR (CDivW x51 a_base) <| (setR a26 0 (x51 / a_base)).bind fun x55 => .ok (x46, x55) else (ixR a26 2).bind fun x64 => (setR a26 2 (x64 + 1)).bind fun x68 => (ixR x68 1).bind fun x77 => (ixR x68 2).bind fun x85 => lt (((((x77 + (7919 * x85)) + 1) * 48271) % 2147483647) : Int) fun x89 => guardR (CMulW x89 ((x89 / 1009) + 69621)) <| lt (((x89 * ((x89 / 1009) + 69621)) % 2147483647) : Int) fun x90 => guardR (CMulW x90 ((x90 / 2003) + 40692)) <| guardR (0 < a_base) <| .ok ((((x90 * ((x90 / 2003) + 40692)) % 2147483399) % a_base), x68))
def sp__law_digit (K : PySem.W.Frag) : Sp := fun vs H Q _ => ∃ (B : Hp) (p_state : Addr) (a_state : (List Int)) (a_base : Int), Ex B H ∧ vs = [.ref p_state, .int a_base] ∧ Mu K B H p_state (a_state.map enc) ∧ Post (l_digit a_state a_base) (fun r => RetM K p_state B H (enc r.1) (r.2.map enc) Q) (fun _ => False)
abbrev s__law_digit : Stmt := top 26
theorem sc__law_digit : FnScope ["_law_state", "_law_base", "_law_found", "_law_number"] ["_law_state", "_law_base"] (defScope s__law_digit) := ⟨rfl, rfl, rfl, by decide +kernel, rfl, by decide +kernel, by decide +kernel⟩
/-! ### _law_figures -/
def l_figures (a_number : Int) : Res (List Int) :=
  (whileR (a_number.natAbs + 1) ((a_number, ([(a_number % 128)] : List Int)) : Int × (List Int)) (fun (a15 : Int × (List Int)) => (if (decide (128 ≤ a15.1)) = true then lt ((a15.1 / 128) : Int) fun x21 => guardR (([(128 + (x21 % 128))] : List Int).length + a15.2.length ≤ 1000000) <| .ok (.nx (x21, (([(128 + (x21 % 128))] : List Int) ++ a15.2))) else .ok (.bk (a15.1, a15.2))))).bind (afterR fun a40 => .ok a40.2)
def sp__law_figures (K : PySem.W.Frag) : Sp := fun vs H Q _ => ∃ (B : Hp) (a_number : Int), Ex B H ∧ vs = [.int a_number] ∧ Post (l_figures a_number) (fun r => Ret K [] B H (enc r) Q) (fun _ => False)
abbrev s__law_figures : Stmt := top 27
theorem sc__law_figures : FnScope ["_law_number", "_law_found"] ["_law_number"] (defScope s__law_figures) := ⟨rfl, rfl, rfl, by decide +kernel, rfl, by decide +kernel, by decide +kernel⟩
/-! ### _law_number_at -/
def l_number_at (a_row : (List Int)) (a_at : Int) : Res (Option (Tp2 Int Int)) :=
  (if (decide ((a_row.length : Int) ≤ a_at)) = true then .ok none else (ixR a_row a_at).bind fun x9 => (if (decide (x9 = 128)) = true then .ok none else guardR ((-(2 ^ 62) ≤ (a_at : Int) ∧ (a_at : Int) < 2 ^ 62) ∧ -(2 ^ 62) ≤ ((a_row.length : Int) : Int) ∧ ((a_row.length : Int) : Int) < 2 ^ 62) <| (forR (rngI a_at (a_row.length : Int)) (0 : Int) (fun x26 (a25 : Int) => (ixR a_row x26).bind fun x37 => lt (((a25 * 128) + (x37 % 128)) : Int) fun x41 => (if (decide (1000000000000000000000000000000000000000000000000000000000000 < x41)) = true then .ok (.rt none) else (ixR a_row x26).bind fun x46 => (if (decide (x46 < 128)) = true then .ok (.rt (some (⟨x41, (x26 + 1)⟩ : (Tp2 Int Int)))) else .ok (.nx x41))))).bind (afterR fun a55 => .ok none)))
def sp__law_number_at (K : PySem.W.Frag) : Sp := fun vs H Q _ => ∃ (B : Hp) (v_row : V) (a_row : (List Int)) (a_at : Int), Ex B H ∧ vs = [v_row, .int a_at] ∧ Rep K B v_row (enc a_row) ∧ Post (l_number_at a_row a_at) (fun r => Ret K [] B H (enc r) Q) (fun _ => False)
abbrev s__law_number_at : Stmt := top 28
theorem sc__law_number_at : FnScope ["_law_row", "_law_at", "_law_number", "_law_place"] ["_law_row", "_law_at"] (defScope s__law_number_at) := ⟨rfl, rfl, rfl, by decide +kernel, rfl, by decide +kernel, by decide +kernel⟩
/-! ### _law_odd_row -/
def l_odd_row (a_state : (List Int)) (a_row : (List Int)) : Res (D × (List Int)) :=
  (l_digit a_state 4).bind fun x1 => (if (decide (x1.1 = 0)) = true then (l_digit x1.2 7).bind fun x26 => (ixR ([(enc ()), (.tup (a_row.map enc) : D), (enc ("" : Str)), (enc (0 : Int)), (.dic [] : D), (enc ("ab" : Str)), (enc (255 : Int))] : List D) x26.1).bind fun x36 => .ok (x36, x26.2) else (l_digit x1.2 10).bind fun x55 => (ixR ([(enc (256 : Int)), (enc ((-1) : Int)), (enc (decide (1 = 1))), (enc ()), (enc ("0" : Str)), (enc ([0] : List Int)), (enc (⟨0⟩ : (Tp1 Int))), (enc (1000000000 : Int)), (enc ((-256) : Int)), (enc (decide (1 = 2)))] : List D) x55.1).bind fun x65 => (l_digit x55.2 ((a_row.length : Int) + 1)).bind fun x73 => guardR (((cutL a_row none (some x73.1)).map enc : List D).length + ([x65] : List D).length ≤ 1000000) <| guardR ((((cutL a_row none (some x73.1)).map enc : List D) ++ ([x65] : List D)).length + ((cutL a_row (some x73.1) none).map enc : List D).length ≤ 1000000) <| .ok ((enc ((((cutL a_row none (some x73.1)).map enc : List D) ++ ([x65] : List D)) ++ ((cutL a_row (some x73.1) none).map enc : List D))), x73.2))
def sp__law_odd_row (K : PySem.W.Frag) : Sp := fun vs H Q _ => ∃ (B : Hp) (p_state : Addr) (a_state : (List Int)) (v_row : V) (a_row : (List Int)), Ex B H ∧ vs = [.ref p_state, v_row] ∧ Mu K B H p_state (a_state.map enc) ∧ Rep K B v_row (enc a_row) ∧ Post (l_odd_row a_state a_row) (fun r => RetM K p_state B H (enc r.1) (r.2.map enc) Q) (fun _ => False)
abbrev s__law_odd_row : Stmt := top 29
theorem sc__law_odd_row : FnScope ["_law_state", "_law_row", "_law_odd", "_law_at"] ["_law_state", "_law_row"] (defScope s__law_odd_row) := ⟨rfl, rfl, rfl, by decide +kernel, rfl, by decide +kernel, by decide +kernel⟩
/-! ### _law_bytes -/
def l_bytes (a_state : (List Int)) (a_many : Int) : Res ((List Int) × (List Int)) :=
  (l_digit a_state 3).bind fun x1 => guardR (-(2 ^ 62) ≤ (a_many : Int) ∧ (a_many : Int) < 2 ^ 62) <| (forR (rngI 0 a_many) ((x1.2, ([] : List Int)) : (List Int) × (List Int)) (fun x23 (a22 : (List Int) × (List Int)) => (l_digit a22.1 256).bind fun x31 => (ixR ([0, 0, 1, 2, 255, x31.1] : List Int) (x31.1 % 6)).bind fun x46 => (ixR ([x31.1, (x31.1 % 3), x46] : List Int) x1.1).bind fun x59 => guardR (a22.2.length < 1000000) <| .ok (.nx (x31.2, (a22.2 ++ [x59]))))).bind (afterR fun a65 => .ok (a65.2, a65.1))
def sp__law_bytes (K : PySem.W.Frag) : Sp := fun vs H Q _ => ∃ (B : Hp) (p_state : Addr) (a_state : (List Int)) (a_many : Int), Ex B H ∧ vs = [.ref p_state, .int a_many] ∧ Mu K B H p_state (a_state.map enc) ∧ Post (l_bytes a_state a_many) (fun r => RetM K p_state B H (enc r.1) (r.2.map enc) Q) (fun _ => False)
abbrev s__law_bytes : Stmt := top 30
theorem sc__law_bytes : FnScope ["_law_state", "_law_many", "_law_plain", "_law_found", "_law_k", "_law_byte"] ["_law_state", "_law_many"] (defScope s__law_bytes) := ⟨rfl, rfl, rfl, by decide +kernel, rfl, by decide +kernel, by decide +kernel⟩
/-! ### _law_sum -/
def l_sum (a_row : (List Int)) (a_number : Int) : Res Int :=
  (forR (a_row) (a_number : Int) (fun x13 (a12 : Int) => lt ((((a12 * 257) + x13) % 65521) : Int) fun x20 => .ok (.nx x20))).bind (afterR fun a21 => .ok a21)
def sp__law_sum (K : PySem.W.Frag) : Sp := fun vs H Q _ => ∃ (B : Hp) (v_row : V) (a_row : (List Int)) (a_number : Int), Ex B H ∧ vs = [v_row, .int a_number] ∧ Rep K B v_row (enc a_row) ∧ Post (l_sum a_row a_number) (fun r => Ret K [] B H (enc r) Q) (fun _ => False)
abbrev s__law_sum : Stmt := top 31
theorem sc__law_sum : FnScope ["_law_row", "_law_number", "_law_byte"] ["_law_row", "_law_number"] (defScope s__law_sum) := ⟨rfl, rfl, rfl, by decide +kernel, rfl, by decide +kernel, by decide +kernel⟩
/-! ### _law_stuffed -/
def l_stuffed (a_row : (List Int)) : Res (List Int) :=
  (forR (a_row) ((0, ([] : List Int)) : Int × (List Int)) (fun x19 (a18 : Int × (List Int)) => guardR (a18.2.length < 1000000) <| guardR (CMulW (a18.1 + 1) (b2z (decide (x19 = 0)))) <| lt (((a18.1 + 1) * (b2z (decide (x19 = 0)))) : Int) fun x28 => (if (decide (x28 = 2)) = true then guardR ((a18.2 ++ [x19]).length < 1000000) <| .ok (.nx (0, ((a18.2 ++ [x19]) ++ [2]))) else .ok (.nx (x28, (a18.2 ++ [x19])))))).bind (afterR fun a31 => .ok a31.2)
def sp__law_stuffed (K : PySem.W.Frag) : Sp := fun vs H Q _ => ∃ (B : Hp) (v_row : V) (a_row : (List Int)), Ex B H ∧ vs = [v_row] ∧ Rep K B v_row (enc a_row) ∧ Post (l_stuffed a_row) (fun r => Ret K [] B H (enc r) Q) (fun _ => False)
abbrev s__law_stuffed : Stmt := top 32
theorem sc__law_stuffed : FnScope ["_law_row", "_law_found", "_law_noughts", "_law_byte"] ["_law_row"] (defScope s__law_stuffed) := ⟨rfl, rfl, rfl, by decide +kernel, rfl, by decide +kernel, by decide +kernel⟩
/-! ### _law_boxed -/
def l_boxed (a_kind : Int) (a_body : (List Int)) : Res (List Int) :=
  (l_figures (a_body.length : Int)).bind fun x5 => guardR (x5.length + a_body.length ≤ 1000000) <| guardR (([a_kind] : List Int).length + a_body.length ≤ 1000000) <| (l_sum (([a_kind] : List Int) ++ a_body) 1).bind fun x42 => guardR ((x5 ++ a_body).length + ([(⟨x42 / 256, x42 % 256⟩ : (Tp2 Int Int)).a, (⟨x42 / 256, x42 % 256⟩ : (Tp2 Int Int)).b] : List Int).length ≤ 1000000) <| (l_stuffed ((x5 ++ a_body) ++ ([(⟨x42 / 256, x42 % 256⟩ : (Tp2 Int Int)).a, (⟨x42 / 256, x42 % 256⟩ : (Tp2 Int Int)).b] : List Int))).bind fun x80 => guardR (([0, 0, 1, a_kind] : List Int).length + x80.length ≤ 1000000) <| guardR ((([0, 0, 1, a_kind] : List Int) ++ x80).length + ([255] : List Int).length ≤ 1000000) <| .ok ((([0, 0, 1, a_kind] : List Int) ++ x80) ++ ([255] : List Int))
def sp__law_boxed (K : PySem.W.Frag) : Sp := fun vs H Q _ => ∃ (B : Hp) (a_kind : Int) (v_body : V) (a_body : (List Int)), Ex B H ∧ vs = [.int a_kind, v_body] ∧ Rep K B v_body (enc a_body) ∧ Post (l_boxed a_kind a_body) (fun r => Ret K [] B H (enc r) Q) (fun _ => False)
abbrev s__law_boxed : Stmt := top 33
theorem sc__law_boxed : FnScope ["_law_kind", "_law_body", "_law_content"] ["_law_kind", "_law_body"] (defScope s__law_boxed) := ⟨rfl, rfl, rfl, by decide +kernel, rfl, by decide +kernel, by decide +kernel⟩
/-! ### _law_contents -/
def l_contents (a_row : (List Int)) (a_at : Int) : Res (Tp2 (List Int) (List Int)) :=
  (whileR (a_row.length + 1) ((0, a_at, ([] : List Int), ([] : List Int)) : Int × Int × (List Int) × (List Int)) (fun (a23 : Int × Int × (List Int) × (List Int)) => (if (decide (a23.2.1 < (a_row.length : Int))) = true then ((if (decide (a23.1 < 2)) = true then (ixR a_row a23.2.1).bind fun x39 => guardR (a23.2.2.1.length < 1000000) <| guardR (a23.2.2.2.length < 1000000) <| (ixR a_row a23.2.1).bind fun x51 => guardR (CMulW (a23.1 + 1) (b2z (decide (x51 = 0)))) <| lt (((a23.1 + 1) * (b2z (decide (x51 = 0)))) : Int) fun x55 => .ok (.nx (x55, (a23.2.2.1 ++ [x39]), (a23.2.2.2 ++ [(a23.2.1 + 1)]))) else (ixR a_row a23.2.1).bind fun x60 => (if (decide (x60 = 2)) = true then (setR a23.2.2.2 (-1) (a23.2.1 + 1)).bind fun x64 => .ok (.nx (0, a23.2.2.1, x64)) else .ok (.rt (.rt (⟨(cutL a23.2.2.1 none (some (-1))), (cutL a23.2.2.2 none (some (-1)))⟩ : (Tp2 (List Int) (List Int))))))) : Res (Fl (Int × (List Int) × (List Int)) _)).bind (afterR fun a92 => lt ((a23.2.1 + 1) : Int) fun x96 => .ok (.nx (a92.1, x96, a92.2.1, a92.2.2))) else .ok (.bk (a23.1, a23.2.1, a23.2.2.1, a23.2.2.2))))).bind (afterR fun a97 => (if (decide (a97.1 = 2)) = true then .ok (⟨(cutL a97.2.2.1 none (some (-1))), (cutL a97.2.2.2 none (some (-1)))⟩ : (Tp2 (List Int) (List Int))) else .ok (⟨a97.2.2.1, a97.2.2.2⟩ : (Tp2 (List Int) (List Int)))))
def sp__law_contents (K : PySem.W.Frag) : Sp := fun vs H Q _ => ∃ (B : Hp) (v_row : V) (a_row : (List Int)) (a_at : Int), Ex B H ∧ vs = [v_row, .int a_at] ∧ Rep K B v_row (enc a_row) ∧ Post (l_contents a_row a_at) (fun r => Ret K [] B H (enc r) Q) (fun _ => False)
abbrev s__law_contents : Stmt := top 34
theorem sc__law_contents : FnScope ["_law_row", "_law_at", "_law_found", "_law_places", "_law_noughts"] ["_law_row", "_law_at"] (defScope s__law_contents) := ⟨rfl, rfl, rfl, by decide +kernel, rfl, by decide +kernel, by decide +kernel⟩
/-! ### _law_box_at -/
def l_box_at (a_row : (List Int)) (a_at : Int) : Res (Option (Tp3 Int (List Int) Int)) :=
  guardR (okEq (enc (cutL a_row (some a_at) (some (a_at + 3)))) (enc ([0, 0, 1] : List Int))) <| (if (!(eqD (enc (cutL a_row (some a_at) (some (a_at + 3)))) (enc ([0, 0, 1] : List Int)))) = true then .ok none else (if (decide ((a_row.length : Int) < (a_at + 4))) = true then .ok none else (ixR a_row (a_at + 3)).bind fun x23 => (if (decide (1 ≤ x23)) = true then (if (decide (x23 ≤ 9)) = true then (l_contents a_row (a_at + 4)).bind fun x27 => (l_number_at x27.a 0).bind fun x41 => (if (isNonD (enc x41)) = true then .ok none else (someR x41).bind fun x47 => (if (decide (60000 < x47.a)) = true then .ok none else (someR x41).bind fun x56 => (someR x41).bind fun x65 => (if (decide ((x27.a.length : Int) < ((x56.b + x65.a) + 2))) = true then .ok none else (someR x41).bind fun x78 => (someR x41).bind fun x87 => lt (((x78.b + x87.a) + 2) : Int) fun x96 => (someR x41).bind fun x97 => (ixR x27.b (x96 - 1)).bind fun x119 => (ixR a_row (a_at + 3)).bind fun x136 => guardR (([x136] : List Int).length + (cutL x27.a (some x97.b) (some (x96 - 2))).length ≤ 1000000) <| (l_sum (([x136] : List Int) ++ (cutL x27.a (some x97.b) (some (x96 - 2)))) 1).bind fun x158 => guardR (okEq (enc (cutL x27.a (some (x96 - 2)) (some x96))) (enc ([(⟨x158 / 256, x158 % 256⟩ : (Tp2 Int Int)).a, (⟨x158 / 256, x158 % 256⟩ : (Tp2 Int Int)).b] : List Int))) <| (if (!(eqD (enc (cutL x27.a (some (x96 - 2)) (some x96))) (enc ([(⟨x158 / 256, x158 % 256⟩ : (Tp2 Int Int)).a, (⟨x158 / 256, x158 % 256⟩ : (Tp2 Int Int)).b] : List Int)))) = true then .ok none else guardR (okEq (enc (cutL a_row (some x119) (some (x119 + 1)))) (enc ([255] : List Int))) <| (if (!(eqD (enc (cutL a_row (some x119) (some (x119 + 1)))) (enc ([255] : List Int)))) = true then .ok none else (ixR a_row (a_at + 3)).bind fun x196 => .ok (some (⟨x196, (cutL x27.a (some x97.b) (some (x96 - 2))), (x119 + 1)⟩ : (Tp3 Int (List Int) Int)))))))) else .ok none) else .ok none)))
def sp__law_box_at (K : PySem.W.Frag) : Sp := fun vs H Q _ => ∃ (B : Hp) (v_row : V) (a_row : (List Int)) (a_at : Int), Ex B H ∧ vs = [v_row, .int a_at] ∧ Rep K B v_row (enc a_row) ∧ Post (l_box_at a_row a_at) (fun r => Ret K [] B H (enc r) Q) (fun _ => False)
abbrev s__law_box_at : Stmt := top 35
theorem sc__law_box_at : FnScope ["_law_row", "_law_at", "_law_found", "_law_places", "_law_size", "_law_many", "_law_body", "_law_end"] ["_law_row", "_law_at"] (defScope s__law_box_at) := ⟨rfl, rfl, rfl, by decide +kernel, rfl, by decide +kernel, by decide +kernel⟩
/-! ### _law_boxes_in -/
def l_boxes_in (a_row : (List Int)) : Res (List (Tp3 Int Int (List Int))) :=
  guardR (-(2 ^ 62) ≤ ((a_row.length : Int) : Int) ∧ ((a_row.length : Int) : Int) < 2 ^ 62) <| (forR (rngI 0 (a_row.length : Int)) (([] : List (Tp3 Int Int (List Int))) : (List (Tp3 Int Int (List Int)))) (fun x20 (a19 : (List (Tp3 Int Int (List Int)))) => (l_box_at a_row x20).bind fun x28 => (if (!(isNonD (enc x28))) = true then (someR x28).bind fun x34 => (someR x28).bind fun x43 => guardR (a19.length < 1000000) <| .ok (.nx (a19 ++ [(⟨x20, x34.a, x43.b⟩ : (Tp3 Int Int (List Int)))])) else .ok (.nx a19)))).bind (afterR fun a59 => .ok a59)
def sp__law_boxes_in (K : PySem.W.Frag) : Sp := fun vs H Q _ => ∃ (B : Hp) (v_row : V) (a_row : (List Int)), Ex B H ∧ vs = [v_row] ∧ Rep K B v_row (enc a_row) ∧ Post (l_boxes_in a_row) (fun r => Ret K [] B H (enc r) Q) (fun _ => False)
abbrev s__law_boxes_in : Stmt := top 36
theorem sc__law_boxes_in : FnScope ["_law_row", "_law_found", "_law_at", "_law_there"] ["_law_row"] (defScope s__law_boxes_in) := ⟨rfl, rfl, rfl, by decide +kernel, rfl, by decide +kernel, by decide +kernel⟩
/-! ### _law_thing -/
def l_thing (a_state : (List Int)) : Res ((List Int) × (List Int)) :=
  (l_digit a_state 7).bind fun x1 => (l_digit x1.2 9).bind fun x7 => lt ((1 + x7.1) : Int) fun x13 => (l_digit x7.2 12).bind fun x14 => (l_bytes x14.2 x14.1).bind fun x20 => (l_boxed x13 x20.1).bind fun x26 => (l_digit x20.2 (x26.length : Int)).bind fun x36 => (if (decide (x1.1 = 1)) = true then (ixR x26 x36.1).bind fun x55 => (l_digit x36.2 255).bind fun x59 => guardR ((cutL x26 none (some x36.1)).length + ([(((x55 + 1) + x59.1) % 256)] : List Int).length ≤ 1000000) <| guardR (((cutL x26 none (some x36.1)) ++ ([(((x55 + 1) + x59.1) % 256)] : List Int)).length + (cutL x26 (some (x36.1 + 1)) none).length ≤ 1000000) <| .ok ((((cutL x26 none (some x36.1)) ++ ([(((x55 + 1) + x59.1) % 256)] : List Int)) ++ (cutL x26 (some (x36.1 + 1)) none)), x59.2) else (if (decide (x1.1 = 2)) = true then .ok ((cutL x26 none (some x36.1)), x36.2) else (if (decide (x1.1 = 3)) = true then (l_digit x36.2 3).bind fun x119 => guardR (([0] : List Int).length * (Int.toNat x119.1) ≤ 1000000 ∧ -(2 ^ 62) ≤ (x119.1 : Int) ∧ (x119.1 : Int) < 2 ^ 62) <| (l_digit x119.2 2).bind fun x139 => guardR ((timesL ([0] : List Int) x119.1).length + (cutL ([0, 0, 1] : List Int) (some x139.1) none).length ≤ 1000000) <| (l_digit x139.2 11).bind fun x167 => guardR (((timesL ([0] : List Int) x119.1) ++ (cutL ([0, 0, 1] : List Int) (some x139.1) none)).length + ([x167.1] : List Int).length ≤ 1000000) <| .ok ((((timesL ([0] : List Int) x119.1) ++ (cutL ([0, 0, 1] : List Int) (some x139.1) none)) ++ ([x167.1] : List Int)), x167.2) else (if (decide (x1.1 = 4)) = true then (l_digit x36.2 6).bind fun x191 => (l_bytes x191.2 x191.1).bind fun x197 => .ok (x197.1, x197.2) else (if (decide (x1.1 = 5)) = true then (l_digit x36.2 3).bind fun x203 => (l_bytes x203.2 x203.1).bind fun x209 => guardR (x26.length + x209.1.length ≤ 1000000) <| (l_boxed x13 (x26 ++ x209.1)).bind fun x228 => .ok (x228, x209.2) else .ok (x26, x36.2))))))
def sp__law_thing (K : PySem.W.Frag) : Sp := fun vs H Q _ => ∃ (B : Hp) (p_state : Addr) (a_state : (List Int)), Ex B H ∧ vs = [.ref p_state] ∧ Mu K B H p_state (a_state.map enc) ∧ Post (l_thing a_state) (fun r => RetM K p_state B H (enc r.1) (r.2.map enc) Q) (fun _ => False)
abbrev s__law_thing : Stmt := top 37
theorem sc__law_thing : FnScope ["_law_state", "_law_way", "_law_kind", "_law_there", "_law_at"] ["_law_state"] (defScope s__law_thing) := ⟨rfl, rfl, rfl, by decide +kernel, rfl, by decide +kernel, by decide +kernel⟩
/-! ### _law_refused -/
def l_refused (a_row : D) : Res Bool :=
  (tryR ((m_boxes_in__any a_row).bind fun x7 => .ok (.nx ()) : Res (Fl (Unit) (Bool))) (fun ⟨ec, _⟩ => guardR (ec ∈ (["NoBytes"] : List Str)) <| .ok (.rt (!false)))).bind (afterR fun a22 => .ok false)
def sp__law_refused (K : PySem.W.Frag) : Sp := fun vs H Q _ => ∃ (B : Hp) (v_row : V) (a_row : D), Ex B H ∧ vs = [v_row] ∧ Rep K B v_row (enc a_row) ∧ Post (l_refused a_row) (fun r => Ret K [] B H (enc r) Q) (fun _ => False)
abbrev s__law_refused : Stmt := top 38
theorem sc__law_refused : FnScope ["_law_row", "e"] ["_law_row"] (defScope s__law_refused) := ⟨rfl, rfl, rfl, by decide +kernel, rfl, by decide +kernel, by decide +kernel⟩
/-! ### _law_apart -/
def l_apart (a_found : (List (Tp3 Int Int (List Int)))) (a_row : (List Int)) : Res Bool :=
  (compR (a_found) (() : Unit) (fun x8 (a12 : Unit) => (l_box_at a_row x8.a).bind fun x34 => (someR x34).bind fun x40 => .ok (some x40.c, ()))).bind <| un2 fun acc11 a12 => guardR ((-(2 ^ 62) ≤ (1 : Int) ∧ (1 : Int) < 2 ^ 62) ∧ -(2 ^ 62) ≤ ((a_found.length : Int) : Int) ∧ ((a_found.length : Int) : Int) < 2 ^ 62) <| (compR (rngI 1 (a_found.length : Int)) (() : Unit) (fun x65 (a69 : Unit) => (ixR acc11 (x65 - 1)).bind fun x85 => (ixR a_found x65).bind fun x93 => .ok (some (decide (x85 ≤ x93.a)), ()))).bind <| un2 fun acc68 a69 => .ok (acc68.all id)
def sp__law_apart (K : PySem.W.Frag) : Sp := fun vs H Q _ => ∃ (B : Hp) (v_found : V) (a_found : (List (Tp3 Int Int (List Int)))) (v_row : V) (a_row : (List Int)), Ex B H ∧ vs = [v_found, v_row] ∧ Rep K B v_found (enc a_found) ∧ Rep K B v_row (enc a_row) ∧ Post (l_apart a_found a_row) (fun r => Ret K [] B H (enc r) Q) (fun _ => False)
abbrev s__law_apart : Stmt := top 39
theorem sc__law_apart : FnScope ["_law_found", "_law_row", "_law_ends", "_law_at", "_law_kind", "_law_body", "_law_k"] ["_law_found", "_law_row"] (defScope s__law_apart) := ⟨rfl, rfl, rfl, by decide +kernel, rfl, by decide +kernel, by decide +kernel⟩
/-! ### law -/
def m_law (a_script : (List Int)) : Res Bool :=
  guardR ((cutL a_script none (some 6)).length + ([0, 1] : List Int).length ≤ 1000000) <| (forR (((cutL a_script none (some 6)) ++ ([0, 1] : List Int))) (() : Unit) (fun x40 (a39 : Unit) => (l_digit ([x40] : List Int) 10).bind fun x67 => guardR (-(2 ^ 62) ≤ (x67.1 : Int) ∧ (x67.1 : Int) < 2 ^ 62) <| (forR (rngI 0 x67.1) ((([] : List Int), x67.2) : (List Int) × (List Int)) (fun x82 (a81 : (List Int) × (List Int)) => (l_thing a81.2).bind fun x91 => guardR (a81.1.length + x91.1.length ≤ 1000000) <| .ok (.nx ((a81.1 ++ x91.1), x91.2)))).bind (afterR fun a110 => (l_boxes_in a110.1).bind fun x117 => (l_apart x117 a110.1).bind fun x123 => (if x123 = true then (forR (rngI 0 2) (() : Unit) (fun x138 (a137 : Unit) => (m_boxes_in a110.1).bind fun x157 => (if (isA "list" (enc x157)) = true then guardR (okEq (enc x157) (enc x117)) <| (if (!(eqD (enc x157) (enc x117))) = true then .ok (.rt (.rt false)) else guardR (okEq (enc a110.1) (enc a110.1)) <| (if (!(eqD (enc a110.1) (enc a110.1))) = true then .ok (.rt (.rt false)) else guardR ((x157.all fun x => decide (x.c.length + x157.length < 999999)) = true) <| .ok (.nx ()))) else .ok (.rt (.rt false))))).bind (afterR fun a192 => (l_odd_row a110.2 a110.1).bind fun x200 => (l_refused x200.1).bind fun x206 => (if x206 = true then .ok (.nx ()) else .ok (.rt false))) else .ok (.rt false))))).bind (afterR fun a212 => .ok true)
def sp_law (K : PySem.W.Frag) : Sp := fun vs H Q _ => ∃ (B : Hp) (v_script : V) (a_script : (List Int)), Ex B H ∧ vs = [v_script] ∧ Bor K B H [] v_script (a_script.map enc) ∧ Post (m_law a_script) (fun r => Ret K [] B H (enc r) Q) (fun _ => False)
abbrev s_law : Stmt := top 40
theorem sc_law : FnScope ["_law_script", "_law_cell", "_law_state", "_law_row", "_law_k", "_law_due", "_law_turn", "_law_handed", "_law_found", "_law_one"] ["_law_script"] (defScope s_law) := ⟨rfl, rfl, rfl, by decide +kernel, rfl, by decide +kernel, by decide +kernel⟩
section
variable {Pr : Program} {wo : World} {K : PySem.W.Frag} {mg : Str → Option Value} {base : Heap}
theorem ok_is_whole {f : Addr} {fd : FuncData}  (F : Fun K "is_whole" "is_whole" s_is_whole f fd) (bI_isinstance : mg "isinstance" = none) (bI_int : mg "int" = none) (bI_bool : mg "bool" = none) : FnOk Pr wo K mg base CX0 1 f fd ["thing", "low", "high"] (sp_is_whole K) := by
  refine F.ok sc_is_whole (fun vs H Q E h => ?_) (fun cdv A outer s H vs Q E hr h => ?_)
  · obtain ⟨_, _, _, _, _, _, rfl, _⟩ := h; rfl
  · obtain ⟨B, v, d, lo, hi, w, rfl, r, k⟩ := h
    have st := Stp.refl (W := []) w
    refine ⟨_, pss_one (ps_ret (pe_and (pe_callB call_isi (by rfl) bI_isinstance PyProof.Rows.boot_isinstance (pa_cons (pv 0) (pa_cons (pe_bltn (v := .ty "int") (by rfl) bI_int Y.boot_int rfl) pa_nil)))
      (pe_and (pe_not (pe_callB call_isi (by rfl) bI_isinstance PyProof.Rows.boot_isinstance (pa_cons (pv 0) (pa_cons (pe_bltn (v := .ty "bool") (by rfl) bI_bool Y.boot_bool rfl) pa_nil))))
       (pe_one (pe_chain op_le op_le (pv 1) (pv 0) (pv 2)))))), ?_⟩
    refine h_ret (h_and (h_cb (h_cons (h_var rfl (h_cons (h_c (h_nil (isi (t := "int") w r (h_bl ?_)))))))))
    cases d <;> try exact h_iteF (k.ok _ _ _ st (Rep.bl _))
    · refine h_iteT (h_and (h_not (h_cb (h_cons (h_var rfl (h_cons (h_c (h_nil (isi (t := "bool") w r (h_bl (h_bl ?_))))))))))) 
      exact h_iteF (k.ok _ _ _ st (Rep.bl _))
    · cases r
      refine h_iteT (h_and (h_not (h_cb (h_cons (h_var rfl (h_cons (h_c (h_nil (isi (t := "bool") w (Rep.int _) (h_bl (h_bl ?_)))))))))))
      refine h_iteT (h_chain (h_var rfl (h_var rfl (h_ch (fun Q q => h_var rfl q) ?_))))
      exact k.ok _ _ _ st (Rep.bl _)
theorem ok_is_bytes {f : Addr} {fd : FuncData}  (F : Fun K "is_bytes" "is_bytes" s_is_bytes f fd) {f_is_whole : Addr} {d_is_whole : FuncData} (g_is_whole : mg "is_whole" = some (.ref f_is_whole)) (k_is_whole : PySem.W.keepIn K (.ref f_is_whole) = true) (b_is_whole : L2.Binds K d_is_whole ["thing", "low", "high"] []) (G_is_whole : FnOk Pr wo K mg base CX0 1 f_is_whole d_is_whole ["thing", "low", "high"] (sp_is_whole K)) (bI_isinstance : mg "isinstance" = none) (bI_list : mg "list" = none) (bI_all : mg "all" = none) : FnOk Pr wo K mg base CX0 2 f fd ["thing"] (sp_is_bytes K) := by
  refine F.ok sc_is_bytes (fun vs H Q E h => ?_) (fun cdv A outer s H0 vs Q E hr h => ?_)
  · obtain ⟨_, _, _, _, rfl, _⟩ := h; rfl
  · obtain ⟨B0, v_thing, a_thing, w, rfl, r_thing, P⟩ := h
    have w0 := w
    have hu := hu_of hr
    have hu64 := hu64_of hr
    have hu65 := hu65_of hr
    have hr1 : Room 1 _ := hr.mono (by decide)
    refine ⟨_, (pss_one (ps_ret (pe_and (pe_callB (r := rIsi K) call_isi (by rfl) bI_isinstance PyProof.Rows.boot_isinstance (pa_cons (pv 0) (pa_cons (pe_bltn (v := .ty "list") (by rfl) bI_list Y.boot_list rfl) pa_nil))) (pe_one (pe_callB (r := rAll K) (cr_all rfl) (by rfl) bI_all PyProof.Rows.boot_all (pa_cons (pe_lc (own := [("byte", 1)]) rfl sc_is_bytes.nd (pi_list (pv 0)) (blkOk_by (N := ["thing", "byte"]) (sc := defScope s_is_bytes) (by decide +kernel)) (fun _ _ _ _ _ => (pg_name (i := 1) sc_is_bytes.nd rfl (by first | exact Or.inl rfl | exact Or.inr rfl))) (fun _ _ _ _ _ => pts_nil) (fun _ _ _ _ _ => (pe_call G_is_whole hr1 rfl g_is_whole k_is_whole b_is_whole .nil pass0 (pa_cons (pv 1) (pa_cons pe_int (pa_cons pe_int pa_nil)))))) pa_nil)))))), ?_⟩
    unfold m_is_bytes at P
    have st := Stp.refl (W := []) w
    refine h_ret ?_
    refine h_and ?_
    refine h_cb ?_
    refine h_cons ?_
    refine h_var rfl ?_
    refine h_cons ?_
    refine h_c ?_
    refine h_nil ?_
    refine isi (t := "list") w (r_thing.mono st.ex) ?_
    refine h_bl ?_
    refine h_ite (fun c1 => ?_) (fun c1 => ?_)
    · replace P := P.iteT c1
      refine h_cb ?_
      refine h_cons ?_
      refine h_lcE ?_
      refine h_var rfl ?_
      obtain ⟨l1, hl2, P⟩ := P.asL
      have rc3 := (r_thing.mono st.ex)
      rw [hl2] at rc3
      obtain ⟨p4, xs5, rfl, hb6, hr7⟩ := Rep.sqB rc3
      refine h_lcL P (w.l hb6) hr7 (fun Dl (acc : List Bool) (a : Unit) H' => ∃ B', Stp [] B0 H0 B' H' ∧ H0 Dl = none ∧ Mu K B' H' Dl (acc.map enc)) (fun Dl hD => ⟨_, Stp.newM w hD, hD, Mu.new w hD .nil⟩) (fun _ _ _ _ j => ?_) ?_ ?_
      · obtain ⟨B17, s18, hD19, m20⟩ := j
        exact s18.ok.l (s18.ex.l hb6)
      · rintro Dl8 N9 T10 x11 v12 acc14 a15 H16 ⟨B17, s18, hD19, m20⟩ r13 hz21 kk22 kn23 P
        have wj25 := w
        have sj24 := s18
        have n26 := st.nn hD19
        replace st := st.go s18 go0
        replace w := s18.ok
        replace r13 := r13.mono s18.ex
        refine h_gname ?_
        refine h_lcT rfl ?_
        refine h_call ?_
        refine h_cons ?_
        refine h_var rfl ?_
        refine h_cons ?_
        refine h_c ?_
        refine h_cons ?_
        refine h_c ?_
        refine h_nil ?_
        refine ⟨B17, v12, x11, 0, 255, w, rfl, r13, (P.bind).mono (fun x27 P => ?_) (fun _ z => z)⟩
        refine fun v31 B28 H29 s30 r32 => ?_
        replace r13 := r13.mono s30.ex
        replace m20 := m20.step s30 nm0
        replace st := st.go s30 go0
        replace sj24 := sj24.go s30 go0
        replace w := s30.ok
        cases r32
        refine h_app (b := x27) w m20 (Rep.bl _) hz21 (fun H33 s34 m20 => ?_)
        replace r13 := r13.mono s34.ex
        replace st := st.go s34 (go1 (.inr n26))
        replace sj24 := sj24.go s34 (go1 (.inr hD19))
        replace w := s34.ok
        exact kk22 x27 () _ ⟨_, sj24, hD19, m20⟩ P.ok
      · rintro Dl8 acc14 a15 H16 ⟨B17, s18, hD19, m20⟩ P
        have n35 := st.nn hD19
        replace st := st.go s18 go0
        replace w := s18.ok
        replace P := P.un2
        obtain ⟨B40, e36, k37, g38, r39⟩ := Mu.keep m20
        replace st := g38 _ _ _ st w0 n35
        replace w := st.ok
        replace r39 : Rep K B40 (.ref Dl8) (enc acc14) := r39
        refine h_nil ?_
        obtain ⟨p41, xs42, hv, hs43, hr44⟩ := Rep.sq w r39
        cases hv
        refine h_all hs43 hr44 ?_
        exact P.ok _ _ _ st (Rep.bl _)
    · replace P := P.iteF c1
      exact P.ok _ _ _ st (Rep.bl _)
theorem ok_sure_row {f : Addr} {fd : FuncData}  (F : Fun K "sure_row" "sure_row" s_sure_row f fd) {C_NoBytes : Addr} (T_NoBytes : ExcR K mg "NoBytes" C_NoBytes) {f_is_bytes : Addr} {d_is_bytes : FuncData} (g_is_bytes : mg "is_bytes" = some (.ref f_is_bytes)) (k_is_bytes : PySem.W.keepIn K (.ref f_is_bytes) = true) (b_is_bytes : L2.Binds K d_is_bytes ["thing"] []) (G_is_bytes : FnOk Pr wo K mg base CX0 2 f_is_bytes d_is_bytes ["thing"] (sp_is_bytes K)) : FnOk Pr wo K mg base (L2.CX Pr wo) 3 f fd ["row"] (sp_sure_row K mg) := by
  refine F.okX sc_sure_row (fun vs H Q E h => ?_) (fun cdv A outer s H0 vs Q E hr h => ?_)
  · obtain ⟨_, _, _, _, rfl, _⟩ := h; rfl
  · obtain ⟨B0, v_row, a_row, w, rfl, r_row, P⟩ := h
    have w0 := w
    have hu := hu_of hr
    have hu64 := hu64_of hr
    have hu65 := hu65_of hr
    have hr2 : Room 2 _ := hr.mono (by decide)
    refine ⟨_, (pss_one (ps_if (pt_not (pt_val (pe_call G_is_bytes hr2 rfl g_is_bytes k_is_bytes b_is_bytes .nil pass0 (pa_cons (pv 0) pa_nil)))) (pss_one (ps_raise rfl (takes_of rfl rfl rfl rfl) (pmk_own PySem.F.excBase_ValueError T_NoBytes.ex T_NoBytes.g T_NoBytes.kp (raises_own T_NoBytes.ec.hs T_NoBytes.ty) rfl))) pss_nil)), ?_⟩
    unfold m_sure_row at P
    have st := Stp.refl (W := []) w
    refine h_if ?_
    refine h_tnot ?_
    refine h_tB ?_
    refine h_call ?_
    refine h_cons ?_
    refine h_var rfl ?_
    refine h_nil ?_
    refine ⟨B0, v_row, a_row, w, rfl, (r_row.mono st.ex), (P.bind.noErr).mono (fun x1 P => ?_) (fun _ z => z.elim)⟩
    refine fun v5 B2 H3 s4 r6 => ?_
    replace st := st.go s4 go0
    replace w := s4.ok
    cases r6
    refine h_bl ?_
    refine h_iteN (fun c1 => ?_) (fun c1 => ?_)
    · replace P := P.iteF c1
      exact P.err _ _ _ T_NoBytes.g st
    · replace P := P.iteT c1
      refine h_next ?_
      exact P.ok _ _ _ st Rep.non
theorem ok_number_at {f : Addr} {fd : FuncData}  (F : Fun K "number_at" "number_at" s_number_at f fd) (c_GREATEST : CI mg "GREATEST" 1000000000000000000000000000000000000000000000000000000000000) (bI_len : mg "len" = none) : FnOk Pr wo K mg base CX0 1 f fd ["row", "at"] (sp_number_at K) := by
  refine F.ok sc_number_at (fun vs H Q E h => ?_) (fun cdv A outer s H0 vs Q E hr h => ?_)
  · obtain ⟨_, _, _, _, _, rfl, _⟩ := h; rfl
  · obtain ⟨B0, v_row, a_row, a_at, w, rfl, r_row, P⟩ := h
    have w0 := w
    have hu := hu_of hr
    have hu64 := hu64_of hr
    have hu65 := hu65_of hr
    refine ⟨_, (pss_cons (ps_if (pt_cmpR (r := rEqD K) (op_eqD hu64) (pe_slice (r := rSlQ K) sl_Q (pv 0) (po_some (pv 1)) (po_some (pe_op op_add (pv 1) pe_int))) (pe_lst (pa_cons pe_int pa_nil)) (nomark _)) (pss_one (ps_ret pe_non)) pss_nil)
      (pss_cons (ps_set (i := 2) sc_number_at.nd rfl (by first | exact Or.inl rfl | exact Or.inr rfl) pe_int)
      (pss_cons (ps_while PassesOwn.never (pt_cmpR op_lt (pv 1) (pe_callB (r := rLenY K) cr_len (by rfl) bI_len PySem.boot_len (pa_cons (pv 0) pa_nil)) (nomark _)) (pss_cons (ps_set (i := 2) sc_number_at.nd rfl (by first | exact Or.inl rfl | exact Or.inr rfl) (pe_op op_add (pe_op op_mul (pv 2) pe_int) (pe_op op_mod (pe_ix (r := rIxL K) ix_list (pv 0) (pv 1) (fun _ _ => rfl)) pe_int)))
      (pss_cons (ps_set (i := 1) sc_number_at.nd rfl (by first | exact Or.inl rfl | exact Or.inr rfl) (pe_op op_add (pv 1) pe_int))
      (pss_cons (ps_if (pt_cmpR op_gt (pv 2) (pe_globI (i := 1000000000000000000000000000000000000000000000000000000000000) (by rfl) c_GREATEST) (nomark _)) (pss_one (ps_ret pe_non)) pss_nil)
      (pss_one (ps_if (pt_cmpR op_lt (pe_ix (r := rIxL K) ix_list (pv 0) (pe_op op_sub (pv 1) pe_int) (fun _ _ => rfl)) pe_int (nomark _)) (pss_one (ps_ret (pe_tup (pa_cons (pv 2) (pa_cons (pv 1) pa_nil))))) pss_nil))))))
      (pss_one (ps_ret pe_non))))), ?_⟩
    unfold m_number_at at P
    have st := Stp.refl (W := []) w
    refine h_seq <| h_if ?_
    refine h_test ?_
    refine h_op ?_
    refine h_sl ?_
    refine h_var rfl ?_
    refine h_part ?_
    refine h_var rfl ?_
    refine h_isI ?_
    refine h_part ?_
    refine h_op ?_
    refine h_var rfl ?_
    refine h_c ?_
    refine h_I0 ?_
    refine h_isI ?_
    obtain ⟨p1, xs2, rfl, hs3, hr4⟩ := Rep.sq w (r_row.mono st.ex)
    refine h_slQ hs3 ?_
    refine h_nwL w (ds := ((cutL a_row (some a_at) (some (a_at + 1)))).map enc) (K := K) (hr4.cut (some a_at) (some (a_at + 1))) (fun p5 B6 H7 s8 r9 => ?_) 
    replace st := st.go s8 go0
    replace w := s8.ok
    replace r9 : Rep K B6 (.ref p5) (enc (cutL a_row (some a_at) (some (a_at + 1)))) := r9
    refine h_lst ?_
    refine h_cons ?_
    refine h_c ?_
    refine h_nil ?_
    refine h_newL w (ds := (([128] : List Int)).map enc) (K := K) (.cons (Rep.int _) .nil) (fun p10 B11 H12 s13 r14 => ?_) (by show 1 ≤ sizeLine; decide)
    replace r9 := r9.mono s13.ex
    replace st := st.go s13 go0
    replace w := s13.ok
    replace r14 : Rep K B11 (.ref p10) (enc ([128] : List Int)) := r14
    obtain ⟨gd, P⟩ := P.guard
    refine h_eqD (d := (enc (cutL a_row (some a_at) (some (a_at + 1))))) (e := (enc ([128] : List Int))) w r9 r14 gd ?_
    refine h_bl ?_
    refine h_ite (fun c1 => ?_) (fun c1 => ?_)
    · replace P := P.iteT c1
      refine h_ret ?_
      refine h_c ?_
      exact P.ok _ _ _ st Rep.non
    · replace P := P.iteF c1
      refine h_next ?_
      refine h_nx ?_
      refine h_set ?_
      refine h_c ?_
      refine h_seq ?_
      have wj16 := w
      have sj15 := Stp.refl (W := []) w
      refine h_while P (fun (a : Int × Int) σ' H' => ∃ (B' : Hp), Stp [] B11 H12 B' H' ∧ σ' = [some ((.ref p1)), some (.int a.2), some (.int a.1)]) ⟨_, sj15, rfl⟩ ?_ ?_
      · rintro N17 C18 T19 a24 _ H26 ⟨B25, s27, rfl⟩ kn20 kk21 kr22 kb23 P
        replace st := st.go s27 go0
        replace w := s27.ok
        have sj15 := s27
        refine h_test ?_
        refine h_op ?_
        refine h_var rfl ?_
        refine h_cb ?_
        refine h_cons ?_
        refine h_var rfl ?_
        refine h_nil ?_
        obtain ⟨p28, xs29, hv, hs30, hr31⟩ := Rep.sq w (r_row.mono st.ex)
        cases hv
        refine h_len hs30 hr31 ?_
        refine h_I0 ?_
        refine h_bl ?_
        refine h_ite (fun c1 => ?_) (fun c1 => ?_)
        · replace P := P.iteT c1
          refine ⟨N17, kn20, ?_⟩
          refine h_set ?_
          refine h_op ?_
          refine h_op ?_
          refine h_var rfl ?_
          refine h_c ?_
          refine h_I (.inr ⟨by decide +kernel, by decide +kernel⟩) ?_
          refine h_op ?_
          refine h_op ?_
          refine h_var rfl ?_
          refine h_var rfl ?_
          obtain ⟨p32, xs33, hv, hs34, hr35⟩ := Rep.sq w (r_row.mono st.ex)
          cases hv
          obtain ⟨x36, hx37, P⟩ := P.ix
          obtain ⟨u38, hu, r39⟩ := RepL.atE hr35 hx37
          refine h_ixL hs34 hu ?_
          cases r39
          refine h_c ?_
          refine h_I (by decide +kernel) ?_
          refine h_I0 ?_
          replace P := P.lt
          generalize hx : ((a24.1 * 128) + (x36 % 128)) = x40 at P ⊢
          refine h_set ?_
          refine h_op ?_
          refine h_var rfl ?_
          refine h_c ?_
          refine h_I0 ?_
          replace P := P.lt
          generalize hx : (a24.2 + 1) = x41 at P ⊢
          refine h_seq <| h_if ?_
          refine h_test ?_
          refine h_op ?_
          refine h_var rfl ?_
          refine h_c ?_
          refine h_I0 ?_
          refine h_bl ?_
          refine h_ite (fun c1 => ?_) (fun c1 => ?_)
          · replace P := P.iteT c1
            refine h_ret ?_
            refine h_c ?_
            exact (kr22 _ P.ok) _ _ _ st Rep.non
          · replace P := P.iteF c1
            refine h_next ?_
            refine h_nx ?_
            refine h_if ?_
            refine h_test ?_
            refine h_op ?_
            refine h_op ?_
            refine h_var rfl ?_
            refine h_op ?_
            refine h_var rfl ?_
            refine h_c ?_
            refine h_I0 ?_
            obtain ⟨p42, xs43, hv, hs44, hr45⟩ := Rep.sq w (r_row.mono st.ex)
            cases hv
            obtain ⟨x46, hx47, P⟩ := P.ix
            obtain ⟨u48, hu, r49⟩ := RepL.atE hr45 hx47
            refine h_ixL hs44 hu ?_
            cases r49
            refine h_c ?_
            refine h_I0 ?_
            refine h_bl ?_
            refine h_ite (fun c1 => ?_) (fun c1 => ?_)
            · replace P := P.iteT c1
              refine h_ret ?_
              refine h_tup ?_
              refine h_cons ?_
              refine h_var rfl ?_
              refine h_cons ?_
              refine h_var rfl ?_
              refine h_nil ?_
              refine h_newT w (K := K) (.cons (Rep.int _) (.cons (Rep.int _) .nil)) (fun p50 B51 H52 s53 r54 => ?_) (by show 2 ≤ sizeLine; decide)
              replace st := st.go s53 go0
              replace sj15 := sj15.go s53 go0
              replace w := s53.ok
              replace r54 : Rep K B51 (.ref p50) (enc (⟨x40, x41⟩ : (Tp2 Int Int))) := r54
              exact (kr22 _ P.ok) _ _ _ st r54
            · replace P := P.iteF c1
              refine h_next ?_
              refine h_nx ?_
              exact kk21 (x40, x41) _ _ ⟨_, sj15, rfl⟩ P.ok
        · replace P := P.iteF c1
          exact kb23 (a24.1, a24.2) _ _ ⟨_, sj15, rfl⟩ P.ok
      · rintro a55 _ H57 ⟨B56, s58, rfl⟩ P
        replace st := st.go s58 go0
        replace w := s58.ok
        refine h_nx ?_
        refine h_ret ?_
        refine h_c ?_
        exact P.ok _ _ _ st Rep.non
theorem ok_check {f : Addr} {fd : FuncData}  (F : Fun K "check" "check" s_check f fd) {f_sure_row : Addr} {d_sure_row : FuncData} (g_sure_row : mg "sure_row" = some (.ref f_sure_row)) (k_sure_row : PySem.W.keepIn K (.ref f_sure_row) = true) (b_sure_row : L2.Binds K d_sure_row ["row"] []) (G_sure_row : FnOk Pr wo K mg base (L2.CX Pr wo) 3 f_sure_row d_sure_row ["row"] (sp_sure_row K mg)) : FnOk Pr wo K mg base CX0 4 f fd ["row"] (sp_check K) := by
  refine F.ok sc_check (fun vs H Q E h => ?_) (fun cdv A outer s H0 vs Q E hr h => ?_)
  · obtain ⟨_, _, _, _, rfl, _⟩ := h; rfl
  · obtain ⟨B0, v_row, a_row, w, rfl, r_row, P⟩ := h
    have w0 := w
    have hu := hu_of hr
    have hu64 := hu64_of hr
    have hu65 := hu65_of hr
    have hr3 : Room 3 _ := hr.mono (by decide)
    refine ⟨_, (pss_cons (ps_expr (pe_call G_sure_row hr3 rfl g_sure_row k_sure_row b_sure_row .nil passL (pa_cons (pv 0) pa_nil)))
      (pss_cons (ps_set (i := 1) sc_check.nd rfl (by first | exact Or.inl rfl | exact Or.inr rfl) pe_int)
      (pss_cons (ps_for PassesOwn.never rfl (pi_list (pv 0)) (pg_name (i := 2) sc_check.nd rfl (by first | exact Or.inl rfl | exact Or.inr rfl)) (pss_one (ps_set (i := 1) sc_check.nd rfl (by first | exact Or.inl rfl | exact Or.inr rfl) (pe_op op_mod (pe_op op_add (pe_op op_mul (pv 1) pe_int) (pv 2)) pe_int))))
      (pss_one (ps_ret (pv 1)))))), ?_⟩
    unfold m_check at P
    have st := Stp.refl (W := []) w
    refine h_seq ?_
    refine h_drop ?_
    refine h_call ?_
    refine h_cons ?_
    refine h_var rfl ?_
    refine h_nil ?_
    refine ⟨B0, v_row, (enc a_row), w, rfl, (r_row.mono st.ex), (P.bind.noErr).mono (fun x1 P => ?_) (fun _ z => z.elim)⟩
    refine fun v5 B2 H3 s4 r6 => ?_
    replace st := st.go s4 go0
    replace w := s4.ok
    cases r6
    refine h_nx ?_
    refine h_set ?_
    refine h_c ?_
    refine h_seq ?_
    refine h_forE ?_
    refine h_var rfl ?_
    obtain ⟨p7, xs8, rfl, hb9, hr10⟩ := Rep.sqB (r_row.mono st.ex)
    have wj12 := w
    have sj11 := Stp.refl (W := []) w
    refine h_forL P (w.l hb9) hr10 (fun (a : Int) σ' H' => ∃ (B' : Hp) (o_byte : Option V), Stp [] B2 H3 B' H' ∧ σ' = [some ((.ref p7)), some (.int a), o_byte]) ⟨_, _, sj11, rfl⟩ (fun _ _ _ j => ?_) ?_ ?_
    · obtain ⟨B22, o25, s24, rfl⟩ := j
      exact s24.ok.l (s24.ex.l hb9)
    · rintro N13 T14 x19 v20 a18 _ H23 ⟨B22, o25, s24, rfl⟩ r21 kk15 kr16 kb17 P
      replace st := st.go s24 go0
      replace w := s24.ok
      have sj11 := s24
      replace r21 := r21.mono sj11.ex
      cases r21
      refine h_gname ?_
      refine h_set1 ?_
      refine h_op ?_
      refine h_op ?_
      refine h_op ?_
      refine h_var rfl ?_
      refine h_c ?_
      refine h_I (.inr ⟨by decide +kernel, by decide +kernel⟩) ?_
      refine h_var rfl ?_
      refine h_I0 ?_
      refine h_c ?_
      refine h_I (by decide +kernel) ?_
      replace P := P.lt
      generalize hx : (((a18 * 257) + x19) % 65521) = x26 at P ⊢
      refine h_nx ?_
      exact kk15 x26 _ _ ⟨_, _, sj11, rfl⟩ P.ok
    · rintro a27 _ H29 ⟨B28, o31, s30, rfl⟩ P
      replace st := st.go s30 go0
      replace w := s30.ok
      refine h_nx ?_
      refine h_ret ?_
      refine h_var rfl ?_
      exact P.ok _ _ _ st (Rep.int _)
theorem ok_noughts_behind {f : Addr} {fd : FuncData}  (F : Fun K "noughts_behind" "noughts_behind" s_noughts_behind f fd)  : FnOk Pr wo K mg base CX0 1 f fd ["noughts", "byte"] (sp_noughts_behind K) := by
  refine F.ok sc_noughts_behind (fun vs H Q E h => ?_) (fun cdv A outer s H0 vs Q E hr h => ?_)
  · obtain ⟨_, _, _, _, rfl, _⟩ := h; rfl
  · obtain ⟨B0, a_noughts, a_byte, w, rfl, P⟩ := h
    have w0 := w
    have hu := hu_of hr
    have hu64 := hu64_of hr
    have hu65 := hu65_of hr
    refine ⟨_, (pss_one (ps_ret (pe_ifExp (pt_cmpR op_eq (pv 1) pe_int (nomark _)) (pe_op op_add (pv 0) pe_int) pe_int))), ?_⟩
    unfold m_noughts_behind at P
    have st := Stp.refl (W := []) w
    refine h_ret ?_
    have wj2 := w
    have sj1 := Stp.refl (W := []) w
    refine h_exprJ P (fun (a : Int) v H' => ∃ B', Stp [] B0 H0 B' H' ∧ v = .int a) (fun N kk3 P => ?_) ?_
    · skip
      refine h_ifE ?_
      refine h_test ?_
      refine h_op ?_
      refine h_var rfl ?_
      refine h_c ?_
      refine h_eqI ?_
      refine h_bl ?_
      refine h_ite (fun c1 => ?_) (fun c1 => ?_)
      · replace P := P.iteT c1
        refine h_op ?_
        refine h_var rfl ?_
        refine h_c ?_
        refine h_I0 ?_
        exact kk3 (a_noughts + 1) _ _ ⟨_, sj1, rfl⟩ P.ok
      · replace P := P.iteF c1
        refine h_c ?_
        exact kk3 0 _ _ ⟨_, sj1, rfl⟩ P.ok
    rintro a4 v5 H7 ⟨B6, s8, r9⟩ P
    replace st := st.go s8 go0
    replace w := s8.ok
    subst r9
    exact P.ok _ _ _ st (Rep.int _)
theorem ok_unstuffed_from {f : Addr} {fd : FuncData}  (F : Fun K "unstuffed_from" "unstuffed_from" s_unstuffed_from f fd) {f_noughts_behind : Addr} {d_noughts_behind : FuncData} (g_noughts_behind : mg "noughts_behind" = some (.ref f_noughts_behind)) (k_noughts_behind : PySem.W.keepIn K (.ref f_noughts_behind) = true) (b_noughts_behind : L2.Binds K d_noughts_behind ["noughts", "byte"] []) (G_noughts_behind : FnOk Pr wo K mg base CX0 1 f_noughts_behind d_noughts_behind ["noughts", "byte"] (sp_noughts_behind K)) (bI_len : mg "len" = none) : FnOk Pr wo K mg base CX0 2 f fd ["row", "at", "many"] (sp_unstuffed_from K) := by
  refine F.ok sc_unstuffed_from (fun vs H Q E h => ?_) (fun cdv A outer s H0 vs Q E hr h => ?_)
  · obtain ⟨_, _, _, _, _, _, rfl, _⟩ := h; rfl
  · obtain ⟨B0, v_row, a_row, a_at, a_many, w, rfl, r_row, P⟩ := h
    have w0 := w
    have hu := hu_of hr
    have hu64 := hu64_of hr
    have hu65 := hu65_of hr
    have hr1 : Room 1 _ := hr.mono (by decide)
    refine ⟨_, (pss_cons (ps_set (i := 3) sc_unstuffed_from.nd rfl (by first | exact Or.inl rfl | exact Or.inr rfl) (pe_lst pa_nil))
      (pss_cons (ps_set (i := 4) sc_unstuffed_from.nd rfl (by first | exact Or.inl rfl | exact Or.inr rfl) pe_int)
      (pss_cons (ps_while PassesOwn.never (PW.pt (pw_or (pt_cmpR op_lt (pe_callB (r := rLenY K) cr_len (by rfl) bI_len PySem.boot_len (pa_cons (pv 3) pa_nil)) (pv 2) (nomark _)) (pw_or1 (pt_cmpR op_eq (pv 4) pe_int (nomark _))))) (pss_cons (ps_if (pt_cmpR op_eq (pv 1) (pe_callB (r := rLenY K) cr_len (by rfl) bI_len PySem.boot_len (pa_cons (pv 0) pa_nil)) (nomark _)) (pss_one (ps_ret pe_non)) pss_nil)
      (pss_cons (ps_set (i := 5) sc_unstuffed_from.nd rfl (by first | exact Or.inl rfl | exact Or.inr rfl) (pe_ix (r := rIxL K) ix_list (pv 0) (pv 1) (fun _ _ => rfl)))
      (pss_cons (ps_set (i := 1) sc_unstuffed_from.nd rfl (by first | exact Or.inl rfl | exact Or.inr rfl) (pe_op op_add (pv 1) pe_int))
      (pss_one (ps_if (pt_cmpR op_lt (pv 4) pe_int (nomark _)) (pss_cons (ps_expr (pe_bm PySem.F.plainAttrs_list PySem.F.slot_list_append PySem.F.type_list_append mt_append (pv 3) (pa_cons (pv 5) pa_nil)))
      (pss_one (ps_set (i := 4) sc_unstuffed_from.nd rfl (by first | exact Or.inl rfl | exact Or.inr rfl) (pe_call G_noughts_behind hr1 rfl g_noughts_behind k_noughts_behind b_noughts_behind .nil pass0 (pa_cons (pv 4) (pa_cons (pv 5) pa_nil)))))) (pss_one (ps_if (pt_cmpR op_eq (pv 5) pe_int (nomark _)) (pss_one (ps_set (i := 4) sc_unstuffed_from.nd rfl (by first | exact Or.inl rfl | exact Or.inr rfl) pe_int)) (pss_one (ps_ret pe_non))))))))))
      (pss_one (ps_ret (pe_tup (pa_cons (pv 3) (pa_cons (pv 1) pa_nil)))))))), ?_⟩
    unfold m_unstuffed_from at P
    have st := Stp.refl (W := []) w
    refine h_set ?_
    refine h_lst ?_
    refine h_nil ?_
    refine h_newM w (ds := (([] : List Int)).map enc) (K := K) .nil (fun p1 H2 hn5 s3 m4 => ?_) (by show 0 ≤ sizeLine; decide)
    have n6 := st.nn hn5
    replace st := st.go s3 go0
    replace w := s3.ok
    refine h_set ?_
    refine h_c ?_
    refine h_seq ?_
    have wj8 := w
    have sj7 := Stp.refl (W := [p1]) w
    refine h_while P (fun (a : Int × Int × (List Int)) σ' H' => ∃ (B' : Hp) (o_byte : Option V), Stp [p1] B0 H2 B' H' ∧ σ' = [some (v_row), some (.int a.1), some (.int a_many), some ((.ref p1)), some (.int a.2.1), o_byte] ∧ Mu K B' H' p1 (a.2.2.map enc)) ⟨_, _, sj7, rfl, m4⟩ ?_ ?_
    · rintro N9 C10 T11 a16 _ H18 ⟨B17, o20, s19, rfl, m4⟩ kn12 kk13 kr14 kb15 P
      replace st := st.go s19 (go1 (.inr n6))
      replace w := s19.ok
      have sj7 := s19
      refine h_tor ?_
      refine h_test ?_
      refine h_op ?_
      refine h_cb ?_
      refine h_cons ?_
      refine h_var rfl ?_
      refine h_nil ?_
      obtain ⟨xs22, hv, hs23, hr24⟩ := Mu.sq m4
      refine h_len hs23 hr24 ?_
      refine h_var rfl ?_
      refine h_I0 ?_
      refine h_bl ?_
      refine h_ite (fun c1 => ?_) (fun c1 => ?_)
      · replace P := P.iteT c1
        refine h_iteT ?_
        refine ⟨N9, kn12, ?_⟩
        refine h_seq <| h_if ?_
        refine h_test ?_
        refine h_op ?_
        refine h_var rfl ?_
        refine h_cb ?_
        refine h_cons ?_
        refine h_var rfl ?_
        refine h_nil ?_
        obtain ⟨p25, xs26, rfl, hs27, hr28⟩ := Rep.sq w (r_row.mono st.ex)
        refine h_len hs27 hr28 ?_
        refine h_eqI ?_
        refine h_bl ?_
        refine h_ite (fun c1 => ?_) (fun c1 => ?_)
        · replace P := P.iteT c1
          refine h_ret ?_
          refine h_c ?_
          exact (kr14 _ P.ok) _ _ _ st Rep.non
        · replace P := P.iteF c1
          refine h_next ?_
          refine h_nx ?_
          refine h_set ?_
          refine h_op ?_
          refine h_var rfl ?_
          refine h_var rfl ?_
          obtain ⟨p29, xs30, hv, hs31, hr32⟩ := Rep.sq w (r_row.mono st.ex)
          cases hv
          obtain ⟨x33, hx34, P⟩ := P.ix
          obtain ⟨u35, hu, r36⟩ := RepL.atE hr32 hx34
          refine h_ixL hs31 hu ?_
          cases r36
          refine h_set ?_
          refine h_op ?_
          refine h_var rfl ?_
          refine h_c ?_
          refine h_I0 ?_
          replace P := P.lt
          generalize hx : (a16.1 + 1) = x37 at P ⊢
          refine h_if ?_
          refine h_test ?_
          refine h_op ?_
          refine h_var rfl ?_
          refine h_c ?_
          refine h_I0 ?_
          refine h_bl ?_
          refine h_ite (fun c1 => ?_) (fun c1 => ?_)
          · replace P := P.iteT c1
            refine h_seq ?_
            refine h_drop ?_
            refine h_bm ?_
            refine h_var rfl ?_
            refine h_bmL m4 ?_
            refine h_cons ?_
            refine h_var rfl ?_
            refine h_nil ?_
            obtain ⟨gd, P⟩ := P.guard
            refine h_append (b := x33) w m4 (Rep.int _) gd (fun H38 s39 m4 => ?_)
            replace st := st.go s39 (go1 (.inr n6))
            replace sj7 := sj7.go s39 (go1 (.inl (by simp)))
            replace w := s39.ok
            refine h_nx ?_
            refine h_set1 ?_
            refine h_call ?_
            refine h_cons ?_
            refine h_var rfl ?_
            refine h_cons ?_
            refine h_var rfl ?_
            refine h_nil ?_
            refine ⟨B17, a16.2.1, x33, w, rfl, (P.bind).mono (fun x40 P => ?_) (fun _ z => z)⟩
            refine fun v44 B41 H42 s43 r45 => ?_
            replace m4 := m4.step s43 nm0
            replace st := st.go s43 go0
            replace sj7 := sj7.go s43 go0
            replace w := s43.ok
            cases r45
            refine h_nx ?_
            exact kk13 (x37, x40, (a16.2.2 ++ [x33])) _ _ ⟨_, _, sj7, rfl, m4⟩ P.ok
          · replace P := P.iteF c1
            refine h_if ?_
            refine h_test ?_
            refine h_op ?_
            refine h_var rfl ?_
            refine h_c ?_
            refine h_eqI ?_
            refine h_bl ?_
            refine h_ite (fun c1 => ?_) (fun c1 => ?_)
            · replace P := P.iteT c1
              refine h_set1 ?_
              refine h_c ?_
              refine h_nx ?_
              exact kk13 (x37, 0, a16.2.2) _ _ ⟨_, _, sj7, rfl, m4⟩ P.ok
            · replace P := P.iteF c1
              refine h_ret ?_
              refine h_c ?_
              exact (kr14 _ P.ok) _ _ _ st Rep.non
      · replace P := P.iteF c1
        refine h_test ?_
        refine h_op ?_
        refine h_var rfl ?_
        refine h_c ?_
        refine h_eqI ?_
        refine h_bl ?_
        refine h_ite (fun c1 => ?_) (fun c1 => ?_)
        · replace P := P.iteT c1
          refine ⟨N9, kn12, ?_⟩
          refine h_seq <| h_if ?_
          refine h_test ?_
          refine h_op ?_
          refine h_var rfl ?_
          refine h_cb ?_
          refine h_cons ?_
          refine h_var rfl ?_
          refine h_nil ?_
          obtain ⟨p46, xs47, rfl, hs48, hr49⟩ := Rep.sq w (r_row.mono st.ex)
          refine h_len hs48 hr49 ?_
          refine h_eqI ?_
          refine h_bl ?_
          refine h_ite (fun c1 => ?_) (fun c1 => ?_)
          · replace P := P.iteT c1
            refine h_ret ?_
            refine h_c ?_
            exact (kr14 _ P.ok) _ _ _ st Rep.non
          · replace P := P.iteF c1
            refine h_next ?_
            refine h_nx ?_
            refine h_set ?_
            refine h_op ?_
            refine h_var rfl ?_
            refine h_var rfl ?_
            obtain ⟨p50, xs51, hv, hs52, hr53⟩ := Rep.sq w (r_row.mono st.ex)
            cases hv
            obtain ⟨x54, hx55, P⟩ := P.ix
            obtain ⟨u56, hu, r57⟩ := RepL.atE hr53 hx55
            refine h_ixL hs52 hu ?_
            cases r57
            refine h_set ?_
            refine h_op ?_
            refine h_var rfl ?_
            refine h_c ?_
            refine h_I0 ?_
            replace P := P.lt
            generalize hx : (a16.1 + 1) = x58 at P ⊢
            refine h_if ?_
            refine h_test ?_
            refine h_op ?_
            refine h_var rfl ?_
            refine h_c ?_
            refine h_I0 ?_
            refine h_bl ?_
            refine h_ite (fun c1 => ?_) (fun c1 => ?_)
            · replace P := P.iteT c1
              refine h_seq ?_
              refine h_drop ?_
              refine h_bm ?_
              refine h_var rfl ?_
              refine h_bmL m4 ?_
              refine h_cons ?_
              refine h_var rfl ?_
              refine h_nil ?_
              obtain ⟨gd, P⟩ := P.guard
              refine h_append (b := x54) w m4 (Rep.int _) gd (fun H59 s60 m4 => ?_)
              replace st := st.go s60 (go1 (.inr n6))
              replace sj7 := sj7.go s60 (go1 (.inl (by simp)))
              replace w := s60.ok
              refine h_nx ?_
              refine h_set1 ?_
              refine h_call ?_
              refine h_cons ?_
              refine h_var rfl ?_
              refine h_cons ?_
              refine h_var rfl ?_
              refine h_nil ?_
              refine ⟨B17, a16.2.1, x54, w, rfl, (P.bind).mono (fun x61 P => ?_) (fun _ z => z)⟩
              refine fun v65 B62 H63 s64 r66 => ?_
              replace m4 := m4.step s64 nm0
              replace st := st.go s64 go0
              replace sj7 := sj7.go s64 go0
              replace w := s64.ok
              cases r66
              refine h_nx ?_
              exact kk13 (x58, x61, (a16.2.2 ++ [x54])) _ _ ⟨_, _, sj7, rfl, m4⟩ P.ok
            · replace P := P.iteF c1
              refine h_if ?_
              refine h_test ?_
              refine h_op ?_
              refine h_var rfl ?_
              refine h_c ?_
              refine h_eqI ?_
              refine h_bl ?_
              refine h_ite (fun c1 => ?_) (fun c1 => ?_)
              · replace P := P.iteT c1
                refine h_set1 ?_
                refine h_c ?_
                refine h_nx ?_
                exact kk13 (x58, 0, a16.2.2) _ _ ⟨_, _, sj7, rfl, m4⟩ P.ok
              · replace P := P.iteF c1
                refine h_ret ?_
                refine h_c ?_
                exact (kr14 _ P.ok) _ _ _ st Rep.non
        · replace P := P.iteF c1
          exact kb15 (a16.1, a16.2.1, a16.2.2) _ _ ⟨_, _, sj7, rfl, m4⟩ P.ok
    · rintro a67 _ H69 ⟨B68, o71, s70, rfl, m4⟩ P
      replace st := st.go s70 (go1 (.inr n6))
      replace w := s70.ok
      refine h_nx ?_
      refine h_ret ?_
      refine h_tup ?_
      refine h_cons ?_
      refine h_var rfl ?_
      refine h_cons ?_
      refine h_var rfl ?_
      refine h_nil ?_
      obtain ⟨B76, e72, k73, g74, r75⟩ := Mu.keep m4
      replace st := g74 _ _ _ st w0 n6
      replace w := st.ok
      replace r75 : Rep K B76 (.ref p1) (enc a67.2.2) := r75
      refine h_newT w (K := K) (.cons r75 (.cons (Rep.int _) .nil)) (fun p77 B78 H79 s80 r81 => ?_) (by show 2 ≤ sizeLine; decide)
      replace r75 := r75.mono s80.ex
      replace st := st.go s80 go0
      replace w := s80.ok
      replace r81 : Rep K B78 (.ref p77) (enc (⟨a67.2.2, a67.1⟩ : (Tp2 (List Int) Int))) := r81
      exact P.ok _ _ _ st r81
theorem ok_check_bytes {f : Addr} {fd : FuncData}  (F : Fun K "check_bytes" "check_bytes" s_check_bytes f fd) {f_check : Addr} {d_check : FuncData} (g_check : mg "check" = some (.ref f_check)) (k_check : PySem.W.keepIn K (.ref f_check) = true) (b_check : L2.Binds K d_check ["row"] []) (G_check : FnOk Pr wo K mg base CX0 4 f_check d_check ["row"] (sp_check K)) (bI_list : mg "list" = none) (bI_divmod : mg "divmod" = none) : FnOk Pr wo K mg base CX0 5 f fd ["kind", "body"] (sp_check_bytes K) := by
  refine F.ok sc_check_bytes (fun vs H Q E h => ?_) (fun cdv A outer s H0 vs Q E hr h => ?_)
  · obtain ⟨_, _, _, _, _, rfl, _⟩ := h; rfl
  · obtain ⟨B0, a_kind, v_body, a_body, w, rfl, r_body, P⟩ := h
    have w0 := w
    have hu := hu_of hr
    have hu64 := hu64_of hr
    have hu65 := hu65_of hr
    have hr4 : Room 4 _ := hr.mono (by decide)
    refine ⟨_, (pss_one (ps_ret (pe_callTy (r := rListY K) cr_list (by rfl) bI_list Y.boot_list (pa_cons (pe_callB (r := rDivmod) cr_divmod (by rfl) bI_divmod PyProof.Rows.boot_divmod (pa_cons (pe_call G_check hr4 rfl g_check k_check b_check .nil pass0 (pa_cons (pe_op (r := rCatQ K) op_catQ (pe_lst (pa_cons (pv 0) pa_nil)) (pv 1)) pa_nil)) (pa_cons pe_int pa_nil))) pa_nil)))), ?_⟩
    unfold m_check_bytes at P
    have st := Stp.refl (W := []) w
    refine h_ret ?_
    refine h_cb ?_
    refine h_cons ?_
    refine h_cb ?_
    refine h_cons ?_
    refine h_call ?_
    refine h_cons ?_
    refine h_op ?_
    refine h_lst ?_
    refine h_cons ?_
    refine h_var rfl ?_
    refine h_nil ?_
    refine h_newL w (ds := (([a_kind] : List Int)).map enc) (K := K) (.cons (Rep.int _) .nil) (fun p1 B2 H3 s4 r5 => ?_) (by show 1 ≤ sizeLine; decide)
    replace st := st.go s4 go0
    replace w := s4.ok
    replace r5 : Rep K B2 (.ref p1) (enc ([a_kind] : List Int)) := r5
    refine h_var rfl ?_
    obtain ⟨p6, xs7, hv, hs8, hr9⟩ := Rep.sq w r5
    cases hv
    obtain ⟨p10, xs11, rfl, hs12, hr13⟩ := Rep.sq w (r_body.mono st.ex)
    obtain ⟨gd, P⟩ := P.guard
    refine h_cat hs8 hs12 (by have g := gd; simp only [hr9.length, hr13.length, List.length_map] at g ⊢; exact Nat.le_trans g (by decide)) ?_
    refine h_nwL w (ds := ((([a_kind] : List Int) ++ a_body)).map enc) (K := K) (RepL.cat hr9 hr13) (fun p14 B15 H16 s17 r18 => ?_) 
    replace st := st.go s17 go0
    replace w := s17.ok
    replace r18 : Rep K B15 (.ref p14) (enc (([a_kind] : List Int) ++ a_body)) := r18
    refine h_nil ?_
    refine ⟨B15, (.ref p14), (([a_kind] : List Int) ++ a_body), w, rfl, r18, (P.bind).mono (fun x19 P => ?_) (fun _ z => z)⟩
    refine fun v23 B20 H21 s22 r24 => ?_
    replace r18 := r18.mono s22.ex
    replace st := st.go s22 go0
    replace w := s22.ok
    cases r24
    refine h_cons ?_
    refine h_c ?_
    refine h_nil ?_
    refine h_divmod (K := K) w (by unfold CDiv; decide) (fun p25 B26 H27 s28 r29 => ?_)
    replace st := st.go s28 go0
    replace w := s28.ok
    replace r29 : Rep K B26 (.ref p25) (enc (⟨x19 / 256, x19 % 256⟩ : (Tp2 Int Int))) := r29
    refine h_nil ?_
    obtain ⟨p30, xs31, hv, hs32, hr33⟩ := Rep.st w r29
    cases hv
    refine h_listT hs32 ?_
    refine h_nwL w (ds := (([(⟨x19 / 256, x19 % 256⟩ : (Tp2 Int Int)).a, (⟨x19 / 256, x19 % 256⟩ : (Tp2 Int Int)).b] : List Int)).map enc) (K := K) hr33 (fun p34 B35 H36 s37 r38 => ?_) 
    replace st := st.go s37 go0
    replace w := s37.ok
    replace r38 : Rep K B35 (.ref p34) (enc ([(⟨x19 / 256, x19 % 256⟩ : (Tp2 Int Int)).a, (⟨x19 / 256, x19 % 256⟩ : (Tp2 Int Int)).b] : List Int)) := r38
    exact P.ok _ _ _ st r38
theorem ok_stands_start {f : Addr} {fd : FuncData}  (F : Fun K "stands_start" "stands_start" s_stands_start f fd) {C_START : Addr} (c_START : CT K mg "START" C_START (⟨0, 0, 1⟩ : (Tp3 Int Int Int))) (bI_list : mg "list" = none) : FnOk Pr wo K mg base CX0 1 f fd ["row", "at"] (sp_stands_start K) := by
  refine F.ok sc_stands_start (fun vs H Q E h => ?_) (fun cdv A outer s H0 vs Q E hr h => ?_)
  · obtain ⟨_, _, _, _, _, rfl, _⟩ := h; rfl
  · obtain ⟨B0, v_row, a_row, a_at, w, rfl, r_row, P⟩ := h
    have w0 := w
    have hu := hu_of hr
    have hu64 := hu64_of hr
    have hu65 := hu65_of hr
    refine ⟨_, (pss_one (ps_ret (pe_cmpR (r := rEqD K) (op_eqD hu64) (pe_slice (r := rSlQ K) sl_Q (pv 0) (po_some (pv 1)) (po_some (pe_op op_add (pv 1) pe_int))) (pe_callTy (r := rListY K) cr_list (by rfl) bI_list Y.boot_list (pa_cons (pe_glob (v := .ref C_START) (by rfl) c_START.g rfl) pa_nil)) (nomark _)))), ?_⟩
    unfold m_stands_start at P
    have st := Stp.refl (W := []) w
    refine h_ret ?_
    refine h_op ?_
    refine h_sl ?_
    refine h_var rfl ?_
    refine h_part ?_
    refine h_var rfl ?_
    refine h_isI ?_
    refine h_part ?_
    refine h_op ?_
    refine h_var rfl ?_
    refine h_c ?_
    refine h_I0 ?_
    refine h_isI ?_
    obtain ⟨p1, xs2, rfl, hs3, hr4⟩ := Rep.sq w (r_row.mono st.ex)
    refine h_slQ hs3 ?_
    refine h_nwL w (ds := ((cutL a_row (some a_at) (some (a_at + 3)))).map enc) (K := K) (hr4.cut (some a_at) (some (a_at + 3))) (fun p5 B6 H7 s8 r9 => ?_) 
    replace st := st.go s8 go0
    replace w := s8.ok
    replace r9 : Rep K B6 (.ref p5) (enc (cutL a_row (some a_at) (some (a_at + 3)))) := r9
    refine h_cb ?_
    refine h_cons ?_
    refine h_c ?_
    have r10 := c_START.rep B6
    refine h_nil ?_
    obtain ⟨p11, xs12, hv, hs13, hr14⟩ := Rep.st w r10
    cases hv
    refine h_listT hs13 ?_
    refine h_nwL w (ds := (([(⟨0, 0, 1⟩ : (Tp3 Int Int Int)).a, (⟨0, 0, 1⟩ : (Tp3 Int Int Int)).b, (⟨0, 0, 1⟩ : (Tp3 Int Int Int)).c] : List Int)).map enc) (K := K) hr14 (fun p15 B16 H17 s18 r19 => ?_) 
    replace r9 := r9.mono s18.ex
    replace st := st.go s18 go0
    replace w := s18.ok
    replace r19 : Rep K B16 (.ref p15) (enc ([(⟨0, 0, 1⟩ : (Tp3 Int Int Int)).a, (⟨0, 0, 1⟩ : (Tp3 Int Int Int)).b, (⟨0, 0, 1⟩ : (Tp3 Int Int Int)).c] : List Int)) := r19
    obtain ⟨gd, P⟩ := P.guard
    refine h_eqD (d := (enc (cutL a_row (some a_at) (some (a_at + 3))))) (e := (enc ([(⟨0, 0, 1⟩ : (Tp3 Int Int Int)).a, (⟨0, 0, 1⟩ : (Tp3 Int Int Int)).b, (⟨0, 0, 1⟩ : (Tp3 Int Int Int)).c] : List Int))) w r9 r19 gd ?_
    exact P.ok _ _ _ st (Rep.bl _)
theorem ok_starts_in {f : Addr} {fd : FuncData}  (F : Fun K "starts_in" "starts_in" s_starts_in f fd) {f_stands_start : Addr} {d_stands_start : FuncData} (g_stands_start : mg "stands_start" = some (.ref f_stands_start)) (k_stands_start : PySem.W.keepIn K (.ref f_stands_start) = true) (b_stands_start : L2.Binds K d_stands_start ["row", "at"] []) (G_stands_start : FnOk Pr wo K mg base CX0 1 f_stands_start d_stands_start ["row", "at"] (sp_stands_start K)) (bI_range : mg "range" = none) (bI_len : mg "len" = none) : FnOk Pr wo K mg base CX0 2 f fd ["row"] (sp_starts_in K) := by
  refine F.ok sc_starts_in (fun vs H Q E h => ?_) (fun cdv A outer s H0 vs Q E hr h => ?_)
  · obtain ⟨_, _, _, _, rfl, _⟩ := h; rfl
  · obtain ⟨B0, v_row, a_row, w, rfl, r_row, P⟩ := h
    have w0 := w
    have hu := hu_of hr
    have hu64 := hu64_of hr
    have hu65 := hu65_of hr
    have hr1 : Room 1 _ := hr.mono (by decide)
    refine ⟨_, (pss_one (ps_ret (pe_lc (own := [("at", 1)]) rfl sc_starts_in.nd (pi_range1 (by rfl) bI_range (pa_cons (pe_op op_sub (pe_callB (r := rLenY K) cr_len (by rfl) bI_len PySem.boot_len (pa_cons (pv 0) pa_nil)) pe_int) pa_nil)) (blkOk_by (N := ["row", "at"]) (sc := defScope s_starts_in) (by decide +kernel)) (fun _ _ _ _ _ => (pg_name (i := 1) sc_starts_in.nd rfl (by first | exact Or.inl rfl | exact Or.inr rfl))) (fun _ _ _ _ _ => (pts_one (PW.pt (pw_and (pt_cmpR op_eq (pe_ix (r := rIxL K) ix_list (pv 0) (pv 1) (fun _ _ => rfl)) pe_int (nomark _)) (pw_and1 (pt_val (pe_call G_stands_start hr1 rfl g_stands_start k_stands_start b_stands_start .nil pass0 (pa_cons (pv 0) (pa_cons (pv 1) pa_nil))))))))) (fun _ _ _ _ _ => (pv 1))))), ?_⟩
    unfold m_starts_in at P
    have st := Stp.refl (W := []) w
    refine h_ret ?_
    refine h_lcR1E ?_
    refine h_cons ?_
    refine h_op ?_
    refine h_cb ?_
    refine h_cons ?_
    refine h_var rfl ?_
    refine h_nil ?_
    obtain ⟨p1, xs2, rfl, hs3, hr4⟩ := Rep.sq w (r_row.mono st.ex)
    refine h_len hs3 hr4 ?_
    refine h_c ?_
    refine h_I0 ?_
    refine h_nil ?_
    obtain ⟨gz5, P⟩ := P.guard
    refine h_lcR1 P (fun Dl (acc : List Int) (a : Unit) H' => ∃ B', Stp [] B0 H0 B' H' ∧ H0 Dl = none ∧ Mu K B' H' Dl (acc.map enc)) (fun Dl hD => ⟨_, Stp.newM w hD, hD, Mu.new w hD .nil⟩) ?_ ?_ gz5
    · rintro Dl6 N7 T8 x9 acc12 a13 H14 ⟨B15, s16, hD17, m18⟩ hlox9 hhix9 hz19 kk20 kn21 P
      have wj23 := w
      have sj22 := s16
      have n24 := st.nn hD17
      replace st := st.go s16 go0
      replace w := s16.ok
      refine h_gname ?_
      refine h_lcI rfl ?_
      refine h_tand ?_
      refine h_test ?_
      refine h_op ?_
      refine h_op ?_
      refine h_var rfl ?_
      refine h_var rfl ?_
      obtain ⟨p25, xs26, hv, hs27, hr28⟩ := Rep.sq w (r_row.mono st.ex)
      cases hv
      obtain ⟨x29, hx30, P⟩ := P.ix
      obtain ⟨u31, hu, r32⟩ := RepL.atE hr28 hx30
      refine h_ixL hs27 hu ?_
      cases r32
      refine h_c ?_
      refine h_eqI ?_
      refine h_bl ?_
      refine h_ite (fun c1 => ?_) (fun c1 => ?_)
      · replace P := P.iteT c1
        refine h_tB ?_
        refine h_call ?_
        refine h_cons ?_
        refine h_var rfl ?_
        refine h_cons ?_
        refine h_var rfl ?_
        refine h_nil ?_
        refine ⟨B15, (.ref p1), a_row, x9, w, rfl, (r_row.mono st.ex), (P.bind).mono (fun x33 P => ?_) (fun _ z => z)⟩
        refine fun v37 B34 H35 s36 r38 => ?_
        replace m18 := m18.step s36 nm0
        replace st := st.go s36 go0
        replace sj22 := sj22.go s36 go0
        replace w := s36.ok
        cases r38
        refine h_bl ?_
        refine h_ite (fun c1 => ?_) (fun c1 => ?_)
        · replace P := P.iteT c1
          refine h_var rfl ?_
          refine h_app (b := x9) w m18 (Rep.int _) hz19 (fun H39 s40 m18 => ?_)
          replace st := st.go s40 (go1 (.inr n24))
          replace sj22 := sj22.go s40 (go1 (.inr hD17))
          replace w := s40.ok
          exact kk20 x9 () _ ⟨_, sj22, hD17, m18⟩ P.ok
        · replace P := P.iteF c1
          exact kn21 () _ ⟨_, sj22, hD17, m18⟩ P.ok
      · replace P := P.iteF c1
        refine h_iteF ?_
        exact kn21 () _ ⟨_, sj22, hD17, m18⟩ P.ok
    · rintro Dl6 acc12 a13 H14 ⟨B15, s16, hD17, m18⟩ P
      have n41 := st.nn hD17
      replace st := st.go s16 go0
      replace w := s16.ok
      replace P := P.un2
      obtain ⟨B46, e42, k43, g44, r45⟩ := Mu.keep m18
      replace st := g44 _ _ _ st w0 n41
      replace w := st.ok
      replace r45 : Rep K B46 (.ref Dl6) (enc acc12) := r45
      exact P.ok _ _ _ st r45
theorem ok_size_at {f : Addr} {fd : FuncData}  (F : Fun K "size_at" "size_at" s_size_at f fd) {f_unstuffed_from : Addr} {d_unstuffed_from : FuncData} (g_unstuffed_from : mg "unstuffed_from" = some (.ref f_unstuffed_from)) (k_unstuffed_from : PySem.W.keepIn K (.ref f_unstuffed_from) = true) (b_unstuffed_from : L2.Binds K d_unstuffed_from ["row", "at", "many"] []) (G_unstuffed_from : FnOk Pr wo K mg base CX0 2 f_unstuffed_from d_unstuffed_from ["row", "at", "many"] (sp_unstuffed_from K)) {f_number_at : Addr} {d_number_at : FuncData} (g_number_at : mg "number_at" = some (.ref f_number_at)) (k_number_at : PySem.W.keepIn K (.ref f_number_at) = true) (b_number_at : L2.Binds K d_number_at ["row", "at"] []) (G_number_at : FnOk Pr wo K mg base CX0 1 f_number_at d_number_at ["row", "at"] (sp_number_at K)) : FnOk Pr wo K mg base CX0 3 f fd ["row", "at"] (sp_size_at K) := by
  refine F.ok sc_size_at (fun vs H Q E h => ?_) (fun cdv A outer s H0 vs Q E hr h => ?_)
  · obtain ⟨_, _, _, _, _, rfl, _⟩ := h; rfl
  · obtain ⟨B0, v_row, a_row, a_at, w, rfl, r_row, P⟩ := h
    have w0 := w
    have hu := hu_of hr
    have hu64 := hu64_of hr
    have hu65 := hu65_of hr
    have hr1 : Room 1 _ := hr.mono (by decide)
    have hr2 : Room 2 _ := hr.mono (by decide)
    refine ⟨_, (pss_cons (ps_for PassesOwn.never rfl (pi_tup (pe_tup (pa_cons pe_int (pa_cons pe_int (pa_cons pe_int pa_nil))))) (pg_name (i := 2) sc_size_at.nd rfl (by first | exact Or.inl rfl | exact Or.inr rfl)) (pss_cons (ps_set (i := 3) sc_size_at.nd rfl (by first | exact Or.inl rfl | exact Or.inr rfl) (pe_call G_unstuffed_from hr2 rfl g_unstuffed_from k_unstuffed_from b_unstuffed_from .nil pass0 (pa_cons (pv 0) (pa_cons (pv 1) (pa_cons (pv 2) pa_nil)))))
      (pss_cons (ps_if (pt_cmpR op_isNn (pv 3) pe_non (nomark _)) (pss_one (ps_ret pe_non)) pss_nil)
      (pss_cons (ps_set (i := 4) sc_size_at.nd rfl (by first | exact Or.inl rfl | exact Or.inr rfl) (pe_call G_number_at hr1 rfl g_number_at k_number_at b_number_at .nil pass0 (pa_cons (pe_ix (r := rIxT K) ix_tup (pv 3) pe_int (fun _ _ => rfl)) (pa_cons pe_int pa_nil))))
      (pss_one (ps_if (pt_cmpR op_notNn (pv 4) pe_non (nomark _)) (pss_one (ps_ret (pv 4))) pss_nil))))))
      (pss_one (ps_ret pe_non))), ?_⟩
    unfold m_size_at at P
    have st := Stp.refl (W := []) w
    refine h_seq ?_
    refine h_forTE ?_
    refine h_tup ?_
    refine h_cons ?_
    refine h_c ?_
    refine h_cons ?_
    refine h_c ?_
    refine h_cons ?_
    refine h_c ?_
    refine h_nil ?_
    refine h_newT w (K := K) (.cons (Rep.int _) (.cons (Rep.int _) (.cons (Rep.int _) .nil))) (fun p1 B2 H3 s4 r5 => ?_) (by show 3 ≤ sizeLine; decide)
    replace st := st.go s4 go0
    replace w := s4.ok
    replace r5 : Rep K B2 (.ref p1) (enc (⟨1, 2, 3⟩ : (Tp3 Int Int Int))) := r5
    have rc6 := r5
    obtain ⟨p7, xs8, hv, hb9, hr10⟩ := Rep.stB rc6
    cases hv
    have wj12 := w
    have sj11 := Stp.refl (W := []) w
    refine h_forT P (w.t hb9) hr10 (fun (a : Unit) σ' H' => ∃ (B' : Hp) (o_head : Option V) (o_size : Option V) (o_many : Option V), Stp [] B2 H3 B' H' ∧ σ' = [some (v_row), some (.int a_at), o_many, o_head, o_size]) ⟨_, _, _, _, sj11, rfl⟩ (fun _ _ _ j => ?_) ?_ ?_
    · obtain ⟨B22, o25, o26, o27, s24, rfl⟩ := j
      exact s24.ok.t (s24.ex.t hb9)
    · rintro N13 T14 x19 v20 a18 _ H23 ⟨B22, o25, o26, o27, s24, rfl⟩ r21 kk15 kr16 kb17 P
      replace st := st.go s24 go0
      replace w := s24.ok
      have sj11 := s24
      replace r21 := r21.mono sj11.ex
      cases r21
      refine h_gname ?_
      refine h_set ?_
      refine h_call ?_
      refine h_cons ?_
      refine h_var rfl ?_
      refine h_cons ?_
      refine h_var rfl ?_
      refine h_cons ?_
      refine h_var rfl ?_
      refine h_nil ?_
      refine ⟨B22, v_row, a_row, a_at, x19, w, rfl, (r_row.mono st.ex), (P.bind).mono (fun x28 P => ?_) (fun _ z => z)⟩
      refine fun v32 B29 H30 s31 r33 => ?_
      replace st := st.go s31 go0
      replace sj11 := sj11.go s31 go0
      replace w := s31.ok
      refine h_seq <| h_if ?_
      refine h_test ?_
      refine h_op ?_
      refine h_var rfl ?_
      refine h_c ?_
      refine h_isN r33 ?_
      refine h_bl ?_
      refine h_ite (fun c1 => ?_) (fun c1 => ?_)
      · replace P := P.iteT c1
        refine h_ret ?_
        refine h_c ?_
        exact (kr16 _ P.ok) _ _ _ st Rep.non
      · replace P := P.iteF c1
        refine h_next ?_
        refine h_nx ?_
        refine h_set ?_
        refine h_call ?_
        refine h_cons ?_
        refine h_op ?_
        refine h_var rfl ?_
        refine h_c ?_
        obtain ⟨x34, hx35, P⟩ := P.some
        have rc36 := r33
        rw [hx35] at rc36
        replace rc36 : Rep K B29 v32 (enc x34) := rc36
        obtain ⟨p37, xs38, rfl, hs39, hr40⟩ := Rep.st w rc36
        obtain ⟨u41, hu, r42⟩ := RepL.at hr40 (i := 0) rfl
        refine h_ixT hs39 hu ?_
        refine h_cons ?_
        refine h_c ?_
        refine h_nil ?_
        refine ⟨B29, u41, x34.a, 0, w, rfl, r42, (P.bind).mono (fun x43 P => ?_) (fun _ z => z)⟩
        refine fun v47 B44 H45 s46 r48 => ?_
        replace r33 := r33.mono s46.ex
        replace r42 := r42.mono s46.ex
        replace st := st.go s46 go0
        replace sj11 := sj11.go s46 go0
        replace w := s46.ok
        refine h_if ?_
        refine h_test ?_
        refine h_op ?_
        refine h_var rfl ?_
        refine h_c ?_
        refine h_notN r48 ?_
        refine h_bl ?_
        refine h_ite (fun c1 => ?_) (fun c1 => ?_)
        · replace P := P.iteT c1
          refine h_ret ?_
          refine h_var rfl ?_
          exact (kr16 _ P.ok) _ _ _ st r48
        · replace P := P.iteF c1
          refine h_next ?_
          refine h_nx ?_
          exact kk15 () _ _ ⟨_, _, _, _, sj11, rfl⟩ P.ok
    · rintro a49 _ H51 ⟨B50, o53, o54, o55, s52, rfl⟩ P
      replace st := st.go s52 go0
      replace w := s52.ok
      refine h_nx ?_
      refine h_ret ?_
      refine h_c ?_
      exact P.ok _ _ _ st Rep.non
theorem ok_box_there {f : Addr} {fd : FuncData}  (F : Fun K "box_there" "box_there" s_box_there f fd) (c_MOST_BODY : CI mg "MOST_BODY" 60000) (c_END : CI mg "END" 255) {f_size_at : Addr} {d_size_at : FuncData} (g_size_at : mg "size_at" = some (.ref f_size_at)) (k_size_at : PySem.W.keepIn K (.ref f_size_at) = true) (b_size_at : L2.Binds K d_size_at ["row", "at"] []) (G_size_at : FnOk Pr wo K mg base CX0 3 f_size_at d_size_at ["row", "at"] (sp_size_at K)) {f_unstuffed_from : Addr} {d_unstuffed_from : FuncData} (g_unstuffed_from : mg "unstuffed_from" = some (.ref f_unstuffed_from)) (k_unstuffed_from : PySem.W.keepIn K (.ref f_unstuffed_from) = true) (b_unstuffed_from : L2.Binds K d_unstuffed_from ["row", "at", "many"] []) (G_unstuffed_from : FnOk Pr wo K mg base CX0 2 f_unstuffed_from d_unstuffed_from ["row", "at", "many"] (sp_unstuffed_from K)) {f_stands_start : Addr} {d_stands_start : FuncData} (g_stands_start : mg "stands_start" = some (.ref f_stands_start)) (k_stands_start : PySem.W.keepIn K (.ref f_stands_start) = true) (b_stands_start : L2.Binds K d_stands_start ["row", "at"] []) (G_stands_start : FnOk Pr wo K mg base CX0 1 f_stands_start d_stands_start ["row", "at"] (sp_stands_start K)) {f_check_bytes : Addr} {d_check_bytes : FuncData} (g_check_bytes : mg "check_bytes" = some (.ref f_check_bytes)) (k_check_bytes : PySem.W.keepIn K (.ref f_check_bytes) = true) (b_check_bytes : L2.Binds K d_check_bytes ["kind", "body"] []) (G_check_bytes : FnOk Pr wo K mg base CX0 5 f_check_bytes d_check_bytes ["kind", "body"] (sp_check_bytes K)) (bI_len : mg "len" = none) : FnOk Pr wo K mg base CX0 6 f fd ["row", "at"] (sp_box_there K) := by
  refine F.ok sc_box_there (fun vs H Q E h => ?_) (fun cdv A outer s H0 vs Q E hr h => ?_)
  · obtain ⟨_, _, _, _, _, rfl, _⟩ := h; rfl
  · obtain ⟨B0, v_row, a_row, a_at, w, rfl, r_row, P⟩ := h
    have w0 := w
    have hu := hu_of hr
    have hu64 := hu64_of hr
    have hu65 := hu65_of hr
    have hr1 : Room 1 _ := hr.mono (by decide)
    have hr2 : Room 2 _ := hr.mono (by decide)
    have hr3 : Room 3 _ := hr.mono (by decide)
    have hr5 : Room 5 _ := hr.mono (by decide)
    refine ⟨_, (pss_cons (ps_if (PW.pt (pw_or (pt_not (pt_val (pe_call G_stands_start hr1 rfl g_stands_start k_stands_start b_stands_start .nil pass0 (pa_cons (pv 0) (pa_cons (pv 1) pa_nil))))) (pw_or (pt_cmpR op_ge (pe_op op_add (pv 1) pe_int) (pe_callB (r := rLenY K) cr_len (by rfl) bI_len PySem.boot_len (pa_cons (pv 0) pa_nil)) (nomark _)) (pw_or1 (pt_not (pt_chain op_le op_le pe_int (pe_ix (r := rIxL K) ix_list (pv 0) (pe_op op_add (pv 1) pe_int) (fun _ _ => rfl)) pe_int)))))) (pss_one (ps_ret pe_non)) pss_nil)
      (pss_cons (ps_set (i := 2) sc_box_there.nd rfl (by first | exact Or.inl rfl | exact Or.inr rfl) (pe_call G_size_at hr3 rfl g_size_at k_size_at b_size_at .nil pass0 (pa_cons (pv 0) (pa_cons (pe_op op_add (pv 1) pe_int) pa_nil))))
      (pss_cons (ps_if (PW.pt (pw_or (pt_cmpR op_isNn (pv 2) pe_non (nomark _)) (pw_or1 (pt_cmpR op_gt (pe_ix (r := rIxT K) ix_tup (pv 2) pe_int (fun _ _ => rfl)) (pe_globI (i := 60000) (by rfl) c_MOST_BODY) (nomark _))))) (pss_one (ps_ret pe_non)) pss_nil)
      (pss_cons (ps_set (i := 3) sc_box_there.nd rfl (by first | exact Or.inl rfl | exact Or.inr rfl) (pe_call G_unstuffed_from hr2 rfl g_unstuffed_from k_unstuffed_from b_unstuffed_from .nil pass0 (pa_cons (pv 0) (pa_cons (pe_op op_add (pv 1) pe_int) (pa_cons (pe_op op_add (pe_op op_add (pe_ix (r := rIxT K) ix_tup (pv 2) pe_int (fun _ _ => rfl)) (pe_ix (r := rIxT K) ix_tup (pv 2) pe_int (fun _ _ => rfl))) pe_int) pa_nil)))))
      (pss_cons (ps_if (pt_cmpR op_isNn (pv 3) pe_non (nomark _)) (pss_one (ps_ret pe_non)) pss_nil)
      (pss_cons (ps_set (i := 4) sc_box_there.nd rfl (by first | exact Or.inl rfl | exact Or.inr rfl) (pe_ix (r := rIxL K) ix_list (pv 0) (pe_op op_add (pv 1) pe_int) (fun _ _ => rfl)))
      (pss_cons (ps_set (i := 5) sc_box_there.nd rfl (by first | exact Or.inl rfl | exact Or.inr rfl) (pe_slice (r := rSlQ K) sl_Q (pe_ix (r := rIxT K) ix_tup (pv 3) pe_int (fun _ _ => rfl)) (po_some (pe_ix (r := rIxT K) ix_tup (pv 2) pe_int (fun _ _ => rfl))) (po_some (pe_un un_neg pe_int))))
      (pss_cons (ps_set (i := 6) sc_box_there.nd rfl (by first | exact Or.inl rfl | exact Or.inr rfl) (pe_ix (r := rIxT K) ix_tup (pv 3) pe_int (fun _ _ => rfl)))
      (pss_cons (ps_if (PW.pt (pw_or (pt_cmpR (r := rNeD K) (op_neD hu64) (pe_slice (r := rSlQ K) sl_Q (pv 0) (po_some (pv 6)) (po_some (pe_op op_add (pv 6) pe_int))) (pe_lst (pa_cons (pe_globI (i := 255) (by rfl) c_END) pa_nil)) (nomark _)) (pw_or1 (pt_cmpR (r := rNeD K) (op_neD hu64) (pe_slice (r := rSlQ K) sl_Q (pe_ix (r := rIxT K) ix_tup (pv 3) pe_int (fun _ _ => rfl)) (po_some (pe_un un_neg pe_int)) po_none) (pe_call G_check_bytes hr5 rfl g_check_bytes k_check_bytes b_check_bytes .nil pass0 (pa_cons (pv 4) (pa_cons (pv 5) pa_nil))) (nomark _))))) (pss_one (ps_ret pe_non)) pss_nil)
      (pss_one (ps_ret (pe_tup (pa_cons (pv 4) (pa_cons (pv 5) (pa_cons (pe_op op_add (pv 6) pe_int) pa_nil))))))))))))))), ?_⟩
    unfold m_box_there at P
    have st := Stp.refl (W := []) w
    refine h_seq <| h_if ?_
    refine h_tor ?_
    refine h_tnot ?_
    refine h_tB ?_
    refine h_call ?_
    refine h_cons ?_
    refine h_var rfl ?_
    refine h_cons ?_
    refine h_var rfl ?_
    refine h_nil ?_
    refine ⟨B0, v_row, a_row, a_at, w, rfl, (r_row.mono st.ex), (P.bind).mono (fun x1 P => ?_) (fun _ z => z)⟩
    refine fun v5 B2 H3 s4 r6 => ?_
    replace st := st.go s4 go0
    replace w := s4.ok
    cases r6
    refine h_bl ?_
    refine h_iteN (fun c1 => ?_) (fun c1 => ?_)
    · replace P := P.iteF c1
      refine h_iteT ?_
      refine h_ret ?_
      refine h_c ?_
      exact P.ok _ _ _ st rfl
    · replace P := P.iteT c1
      refine h_tor ?_
      refine h_test ?_
      refine h_op ?_
      refine h_op ?_
      refine h_var rfl ?_
      refine h_c ?_
      refine h_I0 ?_
      refine h_cb ?_
      refine h_cons ?_
      refine h_var rfl ?_
      refine h_nil ?_
      obtain ⟨p7, xs8, rfl, hs9, hr10⟩ := Rep.sq w (r_row.mono st.ex)
      refine h_len hs9 hr10 ?_
      refine h_I0 ?_
      refine h_bl ?_
      refine h_ite (fun c1 => ?_) (fun c1 => ?_)
      · replace P := P.iteT c1
        refine h_iteT ?_
        refine h_ret ?_
        refine h_c ?_
        exact P.ok _ _ _ st rfl
      · replace P := P.iteF c1
        refine h_tnot ?_
        refine h_test ?_
        refine h_chain ?_
        refine h_c ?_
        refine h_op ?_
        refine h_var rfl ?_
        refine h_op ?_
        refine h_var rfl ?_
        refine h_c ?_
        refine h_I0 ?_
        obtain ⟨p11, xs12, hv, hs13, hr14⟩ := Rep.sq w (r_row.mono st.ex)
        cases hv
        obtain ⟨x15, hx16, P⟩ := P.ix
        obtain ⟨u17, hu, r18⟩ := RepL.atE hr14 hx16
        refine h_ixL hs13 hu ?_
        cases r18
        refine h_I0 ?_
        refine h_bl ?_
        refine h_ite (fun c1 => ?_) (fun c1 => ?_)
        · replace P := P.iteT c1
          refine h_c ?_
          refine h_I0 ?_
          refine h_bl ?_
          refine h_iteN (fun c1 => ?_) (fun c1 => ?_)
          · replace P := P.iteF c1
            refine h_ret ?_
            refine h_c ?_
            exact P.ok _ _ _ st rfl
          · replace P := P.iteT c1
            refine h_next ?_
            refine h_nx ?_
            refine h_set ?_
            refine h_call ?_
            refine h_cons ?_
            refine h_var rfl ?_
            refine h_cons ?_
            refine h_op ?_
            refine h_var rfl ?_
            refine h_c ?_
            refine h_I0 ?_
            refine h_nil ?_
            refine ⟨B2, (.ref p7), a_row, (a_at + 4), w, rfl, (r_row.mono st.ex), (P.bind).mono (fun x19 P => ?_) (fun _ z => z)⟩
            refine fun v23 B20 H21 s22 r24 => ?_
            replace st := st.go s22 go0
            replace w := s22.ok
            refine h_seq <| h_if ?_
            refine h_tor ?_
            refine h_test ?_
            refine h_op ?_
            refine h_var rfl ?_
            refine h_c ?_
            refine h_isN r24 ?_
            refine h_bl ?_
            refine h_ite (fun c1 => ?_) (fun c1 => ?_)
            · replace P := P.iteT c1
              refine h_iteT ?_
              refine h_ret ?_
              refine h_c ?_
              exact P.ok _ _ _ st rfl
            · replace P := P.iteF c1
              refine h_test ?_
              refine h_op ?_
              refine h_op ?_
              refine h_var rfl ?_
              refine h_c ?_
              obtain ⟨x25, hx26, P⟩ := P.some
              have rc27 := r24
              rw [hx26] at rc27
              replace rc27 : Rep K B20 v23 (enc x25) := rc27
              obtain ⟨p28, xs29, rfl, hs30, hr31⟩ := Rep.st w rc27
              obtain ⟨u32, hu, r33⟩ := RepL.at hr31 (i := 0) rfl
              refine h_ixT hs30 hu ?_
              cases r33
              refine h_c ?_
              refine h_I0 ?_
              refine h_bl ?_
              refine h_ite (fun c1 => ?_) (fun c1 => ?_)
              · replace P := P.iteT c1
                refine h_ret ?_
                refine h_c ?_
                exact P.ok _ _ _ st rfl
              · replace P := P.iteF c1
                refine h_next ?_
                refine h_nx ?_
                refine h_set ?_
                refine h_call ?_
                refine h_cons ?_
                refine h_var rfl ?_
                refine h_cons ?_
                refine h_op ?_
                refine h_var rfl ?_
                refine h_c ?_
                refine h_I0 ?_
                refine h_cons ?_
                refine h_op ?_
                refine h_op ?_
                refine h_op ?_
                refine h_var rfl ?_
                refine h_c ?_
                obtain ⟨x34, hx35, P⟩ := P.some
                have rc36 := r24
                rw [hx35] at rc36
                replace rc36 : Rep K B20 (.ref p28) (enc x34) := rc36
                obtain ⟨p37, xs38, hv, hs39, hr40⟩ := Rep.st w rc36
                cases hv
                obtain ⟨u41, hu, r42⟩ := RepL.at hr40 (i := 1) rfl
                refine h_ixT hs39 hu ?_
                cases r42
                refine h_op ?_
                refine h_var rfl ?_
                refine h_c ?_
                obtain ⟨x43, hx44, P⟩ := P.some
                have rc45 := r24
                rw [hx44] at rc45
                replace rc45 : Rep K B20 (.ref p28) (enc x43) := rc45
                obtain ⟨p46, xs47, hv, hs48, hr49⟩ := Rep.st w rc45
                cases hv
                obtain ⟨u50, hu, r51⟩ := RepL.at hr49 (i := 0) rfl
                refine h_ixT hs48 hu ?_
                cases r51
                refine h_I0 ?_
                refine h_c ?_
                refine h_I0 ?_
                refine h_nil ?_
                refine ⟨B20, (.ref p7), a_row, (a_at + 4), ((x34.b + x43.a) + 2), w, rfl, (r_row.mono st.ex), (P.bind).mono (fun x52 P => ?_) (fun _ z => z)⟩
                refine fun v56 B53 H54 s55 r57 => ?_
                replace r24 := r24.mono s55.ex
                replace st := st.go s55 go0
                replace w := s55.ok
                refine h_seq <| h_if ?_
                refine h_test ?_
                refine h_op ?_
                refine h_var rfl ?_
                refine h_c ?_
                refine h_isN r57 ?_
                refine h_bl ?_
                refine h_ite (fun c1 => ?_) (fun c1 => ?_)
                · replace P := P.iteT c1
                  refine h_ret ?_
                  refine h_c ?_
                  exact P.ok _ _ _ st rfl
                · replace P := P.iteF c1
                  refine h_next ?_
                  refine h_nx ?_
                  refine h_set ?_
                  refine h_op ?_
                  refine h_var rfl ?_
                  refine h_op ?_
                  refine h_var rfl ?_
                  refine h_c ?_
                  refine h_I0 ?_
                  obtain ⟨p58, xs59, hv, hs60, hr61⟩ := Rep.sq w (r_row.mono st.ex)
                  cases hv
                  obtain ⟨x62, hx63, P⟩ := P.ix
                  obtain ⟨u64, hu, r65⟩ := RepL.atE hr61 hx63
                  refine h_ixL hs60 hu ?_
                  cases r65
                  refine h_set ?_
                  refine h_sl ?_
                  refine h_op ?_
                  refine h_var rfl ?_
                  refine h_c ?_
                  obtain ⟨x66, hx67, P⟩ := P.some
                  have rc68 := r57
                  rw [hx67] at rc68
                  replace rc68 : Rep K B53 v56 (enc x66) := rc68
                  obtain ⟨p69, xs70, rfl, hs71, hr72⟩ := Rep.st w rc68
                  obtain ⟨u73, hu, r74⟩ := RepL.at hr72 (i := 0) rfl
                  refine h_ixT hs71 hu ?_
                  refine h_part ?_
                  refine h_op ?_
                  refine h_var rfl ?_
                  refine h_c ?_
                  obtain ⟨x75, hx76, P⟩ := P.some
                  have rc77 := r24
                  rw [hx76] at rc77
                  replace rc77 : Rep K B53 (.ref p28) (enc x75) := rc77
                  obtain ⟨p78, xs79, hv, hs80, hr81⟩ := Rep.st w rc77
                  cases hv
                  obtain ⟨u82, hu, r83⟩ := RepL.at hr81 (i := 1) rfl
                  refine h_ixT hs80 hu ?_
                  cases r83
                  refine h_isI ?_
                  refine h_part ?_
                  refine h_un ?_
                  refine h_c ?_
                  refine h_U ?_
                  refine h_isI ?_
                  obtain ⟨p84, xs85, rfl, hs86, hr87⟩ := Rep.sq w r74
                  refine h_slQ hs86 ?_
                  refine h_nwLn w (ds := ((cutL x66.a (some x75.b) (some (-2)))).map enc) (K := K) (hr87.cut (some x75.b) (some (-2))) (fun p88 B89 H90 hnX eX s91 r92 => ?_)
                  have nX := st.nn hnX
                  replace eX : BLst K B89 p88 ((cutL x66.a (some x75.b) (some (-2))).map enc) := eX 
                  replace r24 := r24.mono s91.ex
                  replace r57 := r57.mono s91.ex
                  replace st := st.go s91 go0
                  replace w := s91.ok
                  replace r92 : Rep K B89 (.ref p88) (enc (cutL x66.a (some x75.b) (some (-2)))) := r92
                  refine h_set ?_
                  refine h_op ?_
                  refine h_var rfl ?_
                  refine h_c ?_
                  obtain ⟨x93, hx94, P⟩ := P.some
                  have rc95 := r57
                  rw [hx94] at rc95
                  replace rc95 : Rep K B89 (.ref p69) (enc x93) := rc95
                  obtain ⟨p96, xs97, hv, hs98, hr99⟩ := Rep.st w rc95
                  cases hv
                  obtain ⟨u100, hu, r101⟩ := RepL.at hr99 (i := 1) rfl
                  refine h_ixT hs98 hu ?_
                  cases r101
                  refine h_seq <| h_if ?_
                  refine h_tor ?_
                  refine h_test ?_
                  refine h_op ?_
                  refine h_sl ?_
                  refine h_var rfl ?_
                  refine h_part ?_
                  refine h_var rfl ?_
                  refine h_isI ?_
                  refine h_part ?_
                  refine h_op ?_
                  refine h_var rfl ?_
                  refine h_c ?_
                  refine h_I0 ?_
                  refine h_isI ?_
                  obtain ⟨p102, xs103, hv, hs104, hr105⟩ := Rep.sq w (r_row.mono st.ex)
                  cases hv
                  refine h_slQ hs104 ?_
                  refine h_nwL w (ds := ((cutL a_row (some x93.b) (some (x93.b + 1)))).map enc) (K := K) (hr105.cut (some x93.b) (some (x93.b + 1))) (fun p106 B107 H108 s109 r110 => ?_) 
                  replace r24 := r24.mono s109.ex
                  replace r57 := r57.mono s109.ex
                  replace r92 := r92.mono s109.ex
                  replace eX := eX.mono s109.ex
                  replace st := st.go s109 go0
                  replace w := s109.ok
                  replace r110 : Rep K B107 (.ref p106) (enc (cutL a_row (some x93.b) (some (x93.b + 1)))) := r110
                  refine h_lst ?_
                  refine h_cons ?_
                  refine h_c ?_
                  refine h_nil ?_
                  refine h_newL w (ds := (([255] : List Int)).map enc) (K := K) (.cons (Rep.int _) .nil) (fun p111 B112 H113 s114 r115 => ?_) (by show 1 ≤ sizeLine; decide)
                  replace r24 := r24.mono s114.ex
                  replace r57 := r57.mono s114.ex
                  replace r92 := r92.mono s114.ex
                  replace eX := eX.mono s114.ex
                  replace r110 := r110.mono s114.ex
                  replace st := st.go s114 go0
                  replace w := s114.ok
                  replace r115 : Rep K B112 (.ref p111) (enc ([255] : List Int)) := r115
                  obtain ⟨gd, P⟩ := P.guard
                  refine h_neD (d := (enc (cutL a_row (some x93.b) (some (x93.b + 1))))) (e := (enc ([255] : List Int))) w r110 r115 gd ?_
                  refine h_bl ?_
                  refine h_ite (fun c1 => ?_) (fun c1 => ?_)
                  · replace P := P.iteT c1
                    refine h_iteT ?_
                    refine h_ret ?_
                    refine h_c ?_
                    exact P.ok _ _ _ st rfl
                  · replace P := P.iteF c1
                    refine h_test ?_
                    refine h_op ?_
                    refine h_sl ?_
                    refine h_op ?_
                    refine h_var rfl ?_
                    refine h_c ?_
                    obtain ⟨x116, hx117, P⟩ := P.some
                    have rc118 := r57
                    rw [hx117] at rc118
                    replace rc118 : Rep K B112 (.ref p69) (enc x116) := rc118
                    obtain ⟨p119, xs120, hv, hs121, hr122⟩ := Rep.st w rc118
                    cases hv
                    obtain ⟨u123, hu, r124⟩ := RepL.at hr122 (i := 0) rfl
                    refine h_ixT hs121 hu ?_
                    refine h_part ?_
                    refine h_un ?_
                    refine h_c ?_
                    refine h_U ?_
                    refine h_isI ?_
                    refine h_nopart ?_
                    obtain ⟨p125, xs126, rfl, hs127, hr128⟩ := Rep.sq w r124
                    refine h_slQ hs127 ?_
                    refine h_nwL w (ds := ((cutL x116.a (some (-2)) none)).map enc) (K := K) (hr128.cut (some (-2)) none) (fun p129 B130 H131 s132 r133 => ?_) 
                    replace r24 := r24.mono s132.ex
                    replace r57 := r57.mono s132.ex
                    replace r92 := r92.mono s132.ex
                    replace eX := eX.mono s132.ex
                    replace st := st.go s132 go0
                    replace w := s132.ok
                    replace r133 : Rep K B130 (.ref p129) (enc (cutL x116.a (some (-2)) none)) := r133
                    refine h_call ?_
                    refine h_cons ?_
                    refine h_var rfl ?_
                    refine h_cons ?_
                    refine h_var rfl ?_
                    refine h_nil ?_
                    refine ⟨B130, x62, (.ref p88), (cutL x66.a (some x75.b) (some (-2))), w, rfl, r92, (P.bind).mono (fun x134 P => ?_) (fun _ z => z)⟩
                    refine fun v138 B135 H136 s137 r139 => ?_
                    replace r24 := r24.mono s137.ex
                    replace r57 := r57.mono s137.ex
                    replace r92 := r92.mono s137.ex
                    replace eX := eX.mono s137.ex
                    replace r133 := r133.mono s137.ex
                    replace st := st.go s137 go0
                    replace w := s137.ok
                    obtain ⟨gd, P⟩ := P.guard
                    refine h_neD (d := (enc (cutL x116.a (some (-2)) none))) (e := (enc x134)) w r133 r139 gd ?_
                    refine h_bl ?_
                    refine h_ite (fun c1 => ?_) (fun c1 => ?_)
                    · replace P := P.iteT c1
                      refine h_ret ?_
                      refine h_c ?_
                      exact P.ok _ _ _ st rfl
                    · replace P := P.iteF c1
                      refine h_next ?_
                      refine h_nx ?_
                      refine h_ret ?_
                      refine h_tup ?_
                      refine h_cons ?_
                      refine h_var rfl ?_
                      refine h_cons ?_
                      refine h_var rfl ?_
                      refine h_cons ?_
                      refine h_op ?_
                      refine h_var rfl ?_
                      refine h_c ?_
                      refine h_I0 ?_
                      refine h_nil ?_
                      refine h_newTn w (K := K) (.cons (Rep.int _) (.cons r92 (.cons (Rep.int _) .nil))) (fun p140 B141 H142 eT s143 r144 => ?_) (by show 3 ≤ sizeLine; decide)
                      replace r24 := r24.mono s143.ex
                      replace r57 := r57.mono s143.ex
                      replace r92 := r92.mono s143.ex
                      replace eX := eX.mono s143.ex
                      replace st := st.go s143 go0
                      replace w := s143.ok
                      replace r144 : Rep K B141 (.ref p140) (enc (⟨x62, (cutL x66.a (some x75.b) (some (-2))), (x93.b + 1)⟩ : (Tp3 Int (List Int) Int))) := r144
                      exact P.ok _ _ _ st ⟨_, _, rfl, eT, eX, nX⟩
        · replace P := P.iteF c1
          refine h_bl ?_
          refine h_iteNF ?_
          refine h_ret ?_
          refine h_c ?_
          exact P.ok _ _ _ st rfl
theorem ok_boxes_in__any {f : Addr} {fd : FuncData}  (F : Fun K "boxes_in" "boxes_in" s_boxes_in__any f fd) {f_sure_row : Addr} {d_sure_row : FuncData} (g_sure_row : mg "sure_row" = some (.ref f_sure_row)) (k_sure_row : PySem.W.keepIn K (.ref f_sure_row) = true) (b_sure_row : L2.Binds K d_sure_row ["row"] []) (G_sure_row : FnOk Pr wo K mg base (L2.CX Pr wo) 3 f_sure_row d_sure_row ["row"] (sp_sure_row K mg)) : FnOk Pr wo K mg base (L2.CX Pr wo) 4 f fd ["row"] (sp_boxes_in__any K mg) := by
  refine F.okX sc_boxes_in__any (fun vs H Q E h => ?_) (fun cdv A outer s H0 vs Q E hr h => ?_)
  · obtain ⟨_, _, _, _, rfl, _⟩ := h; rfl
  · obtain ⟨B0, v_row, a_row, w, rfl, r_row, P⟩ := h
    have w0 := w
    have hu := hu_of hr
    have hu64 := hu64_of hr
    have hu65 := hu65_of hr
    have hr3 : Room 3 _ := hr.mono (by decide)
    refine ⟨_, (pss_cons (ps_expr (pe_callS G_sure_row hr3 rfl g_sure_row k_sure_row b_sure_row (fun σ => passAt (takes_of rfl rfl rfl rfl) σ) (pa_cons (pv 0) pa_nil)))
      pss_unreached), ?_⟩
    unfold m_boxes_in__any at P
    have st := Stp.refl (W := []) w
    refine h_seq ?_
    refine h_drop ?_
    refine h_callS ?_
    refine h_cons ?_
    refine h_var rfl ?_
    refine h_nil ?_
    refine ⟨B0, v_row, a_row, w, rfl, (r_row.mono st.ex), Post.mono2 P.bind (fun e7 P => ?_) (fun x1 P => ?_)⟩
    · skip
      exact fun C B' H' g s => P C B' H' g (st.go s go0)
    refine fun v5 B2 H3 s4 r6 => ?_
    replace st := st.go s4 go0
    replace w := s4.ok
    cases r6
    refine h_nx ?_
    exact P.elim
theorem ok_boxes_in {f : Addr} {fd : FuncData}  (F : Fun K "boxes_in" "boxes_in" s_boxes_in f fd) {f_sure_row : Addr} {d_sure_row : FuncData} (g_sure_row : mg "sure_row" = some (.ref f_sure_row)) (k_sure_row : PySem.W.keepIn K (.ref f_sure_row) = true) (b_sure_row : L2.Binds K d_sure_row ["row"] []) (G_sure_row : FnOk Pr wo K mg base (L2.CX Pr wo) 3 f_sure_row d_sure_row ["row"] (sp_sure_row K mg)) {f_starts_in : Addr} {d_starts_in : FuncData} (g_starts_in : mg "starts_in" = some (.ref f_starts_in)) (k_starts_in : PySem.W.keepIn K (.ref f_starts_in) = true) (b_starts_in : L2.Binds K d_starts_in ["row"] []) (G_starts_in : FnOk Pr wo K mg base CX0 2 f_starts_in d_starts_in ["row"] (sp_starts_in K)) {f_box_there : Addr} {d_box_there : FuncData} (g_box_there : mg "box_there" = some (.ref f_box_there)) (k_box_there : PySem.W.keepIn K (.ref f_box_there) = true) (b_box_there : L2.Binds K d_box_there ["row", "at"] []) (G_box_there : FnOk Pr wo K mg base CX0 6 f_box_there d_box_there ["row", "at"] (sp_box_there K)) : FnOk Pr wo K mg base CX0 7 f fd ["row"] (sp_boxes_in K) := by
  refine F.ok sc_boxes_in (fun vs H Q E h => ?_) (fun cdv A outer s H0 vs Q E hr h => ?_)
  · obtain ⟨_, _, _, _, rfl, _⟩ := h; rfl
  · obtain ⟨B0, v_row, a_row, w, rfl, r_row, P⟩ := h
    have w0 := w
    have hu := hu_of hr
    have hu64 := hu64_of hr
    have hu65 := hu65_of hr
    have hr2 : Room 2 _ := hr.mono (by decide)
    have hr3 : Room 3 _ := hr.mono (by decide)
    have hr6 : Room 6 _ := hr.mono (by decide)
    refine ⟨_, (pss_cons (ps_expr (pe_call G_sure_row hr3 rfl g_sure_row k_sure_row b_sure_row .nil passL (pa_cons (pv 0) pa_nil)))
      (pss_cons (ps_set (i := 1) sc_boxes_in.nd rfl (by first | exact Or.inl rfl | exact Or.inr rfl) (pe_lst pa_nil))
      (pss_cons (ps_for PassesOwn.never rfl (pi_list (pe_call G_starts_in hr2 rfl g_starts_in k_starts_in b_starts_in .nil pass0 (pa_cons (pv 0) pa_nil))) (pg_name (i := 2) sc_boxes_in.nd rfl (by first | exact Or.inl rfl | exact Or.inr rfl)) (pss_cons (ps_set (i := 3) sc_boxes_in.nd rfl (by first | exact Or.inl rfl | exact Or.inr rfl) (pe_call G_box_there hr6 rfl g_box_there k_box_there b_box_there .nil pass0 (pa_cons (pv 0) (pa_cons (pv 2) pa_nil))))
      (pss_one (ps_if (pt_cmpR op_notNn (pv 3) pe_non (nomark _)) (pss_one (ps_expr (pe_bm PySem.F.plainAttrs_list PySem.F.slot_list_append PySem.F.type_list_append mt_append (pv 1) (pa_cons (pe_tup (pa_cons (pv 2) (pa_cons (pe_ix (r := rIxT K) ix_tup (pv 3) pe_int (fun _ _ => rfl)) (pa_cons (pe_ix (r := rIxT K) ix_tup (pv 3) pe_int (fun _ _ => rfl)) pa_nil)))) pa_nil)))) pss_nil))))
      (pss_one (ps_ret (pv 1)))))), ?_⟩
    unfold m_boxes_in at P
    have st := Stp.refl (W := []) w
    refine h_seq ?_
    refine h_drop ?_
    refine h_call ?_
    refine h_cons ?_
    refine h_var rfl ?_
    refine h_nil ?_
    refine ⟨B0, v_row, (enc a_row), w, rfl, (r_row.mono st.ex), (P.bind.noErr).mono (fun x1 P => ?_) (fun _ z => z.elim)⟩
    refine fun v5 B2 H3 s4 r6 => ?_
    replace st := st.go s4 go0
    replace w := s4.ok
    cases r6
    refine h_nx ?_
    refine h_set ?_
    refine h_lst ?_
    refine h_nil ?_
    refine h_newX (K := K) (H0 := H0) w (fun p7 H8 hn11 s9 m10 => ?_)
    have n12 := st.nn hn11
    replace st := st.go s9 go0
    replace w := s9.ok
    refine h_seq ?_
    refine h_forE ?_
    refine h_call ?_
    refine h_cons ?_
    refine h_var rfl ?_
    refine h_nil ?_
    refine ⟨B2, v_row, a_row, w, rfl, (r_row.mono st.ex), (P.bind).mono (fun x13 P => ?_) (fun _ z => z)⟩
    refine fun v17 B14 H15 s16 r18 => ?_
    replace m10 := m10.step s16 nm0
    replace st := st.go s16 go0
    replace w := s16.ok
    obtain ⟨p19, xs20, rfl, hb21, hr22⟩ := Rep.sqB r18
    have wj24 := w
    have sj23 := Stp.refl (W := [p7]) w
    refine h_forL P (w.l hb21) hr22 (fun (a : (List (Tp3 Int Int (List Int)))) σ' H' => ∃ (B' : Hp) (o_there : Option V) (o_at : Option V), Stp [p7] B14 H15 B' H' ∧ σ' = [some (v_row), some ((.ref p7)), o_at, o_there] ∧ FaX K B' H0 H' p7 a) ⟨_, _, _, sj23, rfl, m10⟩ (fun _ _ _ j => ?_) ?_ ?_
    · obtain ⟨B34, o37, o38, s36, rfl, m10⟩ := j
      exact s36.ok.l (s36.ex.l hb21)
    · rintro N25 T26 x31 v32 a30 _ H35 ⟨B34, o37, o38, s36, rfl, m10⟩ r33 kk27 kr28 kb29 P
      replace st := st.go s36 (go1 (.inr n12))
      replace w := s36.ok
      have sj23 := s36
      replace r33 := r33.mono sj23.ex
      cases r33
      refine h_gname ?_
      refine h_set ?_
      refine h_call ?_
      refine h_cons ?_
      refine h_var rfl ?_
      refine h_cons ?_
      refine h_var rfl ?_
      refine h_nil ?_
      refine ⟨B34, v_row, a_row, x31, w, rfl, (r_row.mono st.ex), (P.bind).mono (fun x39 P => ?_) (fun _ z => z)⟩
      have nf := fun (p : Addr) (h : H35 p = none) => st.nn h
      have qf := fun (p : Addr) (h : H35 p = none) => m10.mu.ne h
      refine fun v43 B40 H41 s42 lX => ?_
      have r44 := lX.rep
      replace m10 := m10.step s42 nm0
      replace st := st.go s42 go0
      replace sj23 := sj23.go s42 go0
      replace w := s42.ok
      refine h_if ?_
      refine h_test ?_
      refine h_op ?_
      refine h_var rfl ?_
      refine h_c ?_
      refine h_notN r44 ?_
      refine h_bl ?_
      refine h_ite (fun c1 => ?_) (fun c1 => ?_)
      · replace P := P.iteT c1
        refine h_drop ?_
        refine h_bm ?_
        refine h_var rfl ?_
        refine h_bmL m10.mu ?_
        refine h_cons ?_
        refine h_tup ?_
        refine h_cons ?_
        refine h_var rfl ?_
        refine h_cons ?_
        refine h_op ?_
        refine h_var rfl ?_
        refine h_c ?_
        obtain ⟨x45, hx46, P⟩ := P.some
        have rc47 := r44
        rw [hx46] at rc47
        replace rc47 : Rep K B40 v43 (enc x45) := rc47
        obtain ⟨p48, xs49, rfl, hs50, hr51⟩ := Rep.st w rc47
        obtain ⟨u52, hu, r53⟩ := RepL.at hr51 (i := 0) rfl
        refine h_ixT hs50 hu ?_
        cases r53
        refine h_cons ?_
        refine h_op ?_
        refine h_var rfl ?_
        refine h_c ?_
        obtain ⟨x54, hx55, P⟩ := P.some
        rw [hx55] at lX
        obtain ⟨tX, pX, ev, et, eb, en⟩ := lX
        cases ev
        refine h_ixT (SqT.of (w _ _ et)) (i := 1) (v := .ref pX) rfl ?_
        refine h_nil ?_
        refine h_newTn w (K := K) (.cons (Rep.int _) (.cons (Rep.int _) (.cons eb.rep .nil))) (fun p63 B64 H65 eT s66 r67 => ?_) (by show 3 ≤ sizeLine; decide)
        replace m10 := m10.step s66 nm0
        replace r44 := r44.mono s66.ex
        replace st := st.go s66 go0
        replace sj23 := sj23.go s66 go0
        replace w := s66.ok
        replace r67 : Rep K B64 (.ref p63) (enc (⟨x31, x45.a, x54.b⟩ : (Tp3 Int Int (List Int)))) := r67
        refine h_nil ?_
        obtain ⟨gd, P⟩ := P.guard
        refine h_appX (b := (⟨x31, x45.a, x54.b⟩ : (Tp3 Int Int (List Int)))) w m10 ⟨_, _, rfl, eT, eb.mono s66.ex, nf _ en, (qf _ en).symm⟩ gd (fun H68 s69 m10 => ?_)
        replace r44 := r44.mono s69.ex
        replace st := st.go s69 (go1 (.inr n12))
        replace sj23 := sj23.go s69 (go1 (.inl (by simp)))
        replace w := s69.ok
        refine h_nx ?_
        exact kk27 (a30 ++ [(⟨x31, x45.a, x54.b⟩ : (Tp3 Int Int (List Int)))]) _ _ ⟨_, _, _, sj23, rfl, m10⟩ P.ok
      · replace P := P.iteF c1
        refine h_next ?_
        refine h_nx ?_
        exact kk27 a30 _ _ ⟨_, _, _, sj23, rfl, m10⟩ P.ok
    · rintro a70 _ H72 ⟨B71, o74, o75, s73, rfl, m10⟩ P
      replace st := st.go s73 (go1 (.inr n12))
      replace w := s73.ok
      refine h_nx ?_
      refine h_ret ?_
      refine h_var rfl ?_
      exact P.ok _ _ _ st n12 m10
theorem ok__law_digit {f : Addr} {fd : FuncData}  (F : Fun K "_law_digit" "_law_digit" s__law_digit f fd) (bI_len : mg "len" = none) : FnOk Pr wo K mg base CX0 1 f fd ["_law_state", "_law_base"] (sp__law_digit K) := by
  refine F.ok sc__law_digit (fun vs H Q E h => ?_) (fun cdv A outer s H0 vs Q E hr h => ?_)
  · obtain ⟨_, _, _, _, _, rfl, _⟩ := h; rfl
  · obtain ⟨B0, p_state, a_state, a_base, w, rfl, m_state, P⟩ := h
    have w0 := w
    have hu := hu_of hr
    have hu64 := hu64_of hr
    have hu65 := hu65_of hr
    refine ⟨_, (pss_cons (ps_if (pt_cmpR op_eq (pe_callB (r := rLenY K) cr_len (by rfl) bI_len PySem.boot_len (pa_cons (pv 0) pa_nil)) pe_int (nomark _)) (pss_one (ps_expr (pe_bm PySem.F.plainAttrs_list PySem.F.slot_list_extend PySem.F.type_list_extend mt_extend (pv 0) (pa_cons (pe_lst (pa_cons (pe_op op_mod (pe_ix (r := rIxL K) ix_list (pv 0) pe_int (fun _ _ => rfl)) pe_int) (pa_cons pe_int pa_nil))) pa_nil)))) pss_nil)
      (pss_cons (ps_if (pt_cmpR op_ge (pe_ix (r := rIxL K) ix_list (pv 0) pe_int (fun _ _ => rfl)) (pv 1) (nomark _)) (pss_cons (ps_set (i := 2) sc__law_digit.nd rfl (by first | exact Or.inl rfl | exact Or.inr rfl) (pe_op op_mod (pe_ix (r := rIxL K) ix_list (pv 0) pe_int (fun _ _ => rfl)) (pv 1)))
      (pss_cons (ps_asg (pe_op op_fdivW (pe_ix (r := rIxL K) ix_list (pv 0) pe_int (fun _ _ => rfl)) (pv 1)) (pg_sub (pv 0) pe_int set_list))
      (pss_one (ps_ret (pv 2))))) pss_nil)
      (pss_cons (ps_asg (pe_op op_add (pe_ix (r := rIxL K) ix_list (pv 0) pe_int (fun _ _ => rfl)) pe_int) (pg_sub (pv 0) pe_int set_list))
      (pss_cons (ps_set (i := 3) sc__law_digit.nd rfl (by first | exact Or.inl rfl | exact Or.inr rfl) (pe_op op_mod (pe_op op_mul (pe_op op_add (pe_op op_add (pe_ix (r := rIxL K) ix_list (pv 0) pe_int (fun _ _ => rfl)) (pe_op op_mul pe_int (pe_ix (r := rIxL K) ix_list (pv 0) pe_int (fun _ _ => rfl)))) pe_int) pe_int) pe_int))
      (pss_cons (ps_set (i := 3) sc__law_digit.nd rfl (by first | exact Or.inl rfl | exact Or.inr rfl) (pe_op op_mod (pe_op op_mulW (pv 3) (pe_op op_add (pe_op op_fdiv (pv 3) pe_int) pe_int)) pe_int))
      (pss_one (ps_ret (pe_op op_mod (pe_op op_mod (pe_op op_mulW (pv 3) (pe_op op_add (pe_op op_fdiv (pv 3) pe_int) pe_int)) pe_int) (pv 1))))))))), ?_⟩
    unfold l_digit at P
    have st := Stp.refl (W := [p_state]) w
    have wj2 := w
    have sj1 := Stp.refl (W := [p_state]) w
    refine h_joinS P (fun (a : (List Int)) σ' H' => ∃ (B' : Hp), Stp [p_state] B0 H0 B' H' ∧ σ' = [some ((.ref p_state)), some (.int a_base), none, none] ∧ Mu K B' H' p_state (a.map enc)) (fun N kk3 P => h_if ?_) ?_
    · skip
      refine h_test ?_
      refine h_op ?_
      refine h_cb ?_
      refine h_cons ?_
      refine h_var rfl ?_
      refine h_nil ?_
      obtain ⟨xs5, hv, hs6, hr7⟩ := Mu.sq m_state
      refine h_len hs6 hr7 ?_
      refine h_c ?_
      refine h_eqI ?_
      refine h_bl ?_
      refine h_ite (fun c1 => ?_) (fun c1 => ?_)
      · replace P := P.iteT c1
        refine h_drop ?_
        refine h_bm ?_
        refine h_var rfl ?_
        refine h_bmL m_state ?_
        refine h_cons ?_
        refine h_lst ?_
        refine h_cons ?_
        refine h_op ?_
        refine h_op ?_
        refine h_var rfl ?_
        refine h_c ?_
        obtain ⟨xs9, hv, hs10, hr11⟩ := Mu.sq m_state
        obtain ⟨x12, hx13, P⟩ := P.ix
        obtain ⟨u14, hu, r15⟩ := RepL.atE hr11 hx13
        refine h_ixL hs10 hu ?_
        cases r15
        refine h_c ?_
        refine h_I (by decide +kernel) ?_
        refine h_cons ?_
        refine h_c ?_
        refine h_nil ?_
        refine h_newM w (ds := (([(x12 % 2147483647), 0] : List Int)).map enc) (K := K) (.cons (Rep.int _) (.cons (Rep.int _) .nil)) (fun p16 H17 hn20 s18 m19 => ?_) (by show 2 ≤ sizeLine; decide)
        have n21 := st.nn hn20
        have n22 := sj1.nn hn20
        have ne23 := Mu.ne m_state hn20
        replace m_state := m_state.step s18 nm0
        replace st := st.go s18 go0
        replace sj1 := sj1.go s18 go0
        replace w := s18.ok
        refine h_nil ?_
        obtain ⟨gd, P⟩ := P.guard
        refine h_extend w m_state m19 gd (fun H24 s25 m_state => ?_)
        replace st := st.go s25 (go1 (.inl (by simp)))
        replace sj1 := sj1.go s25 (go1 (.inl (by simp)))
        replace w := s25.ok
        refine h_nx ?_
        exact kk3 (a_state ++ ([(x12 % 2147483647), 0] : List Int)) _ _ ⟨_, sj1, rfl, m_state⟩ P.ok
      · replace P := P.iteF c1
        refine h_next ?_
        refine h_nx ?_
        exact kk3 a_state _ _ ⟨_, sj1, rfl, m_state⟩ P.ok
    rintro a26 _ H28 ⟨B27, s29, rfl, m_state⟩ P
    replace st := st.go s29 (go1 (.inl (by simp)))
    replace w := s29.ok
    refine h_seq <| h_if ?_
    refine h_test ?_
    refine h_op ?_
    refine h_op ?_
    refine h_var rfl ?_
    refine h_c ?_
    obtain ⟨xs31, hv, hs32, hr33⟩ := Mu.sq m_state
    obtain ⟨x34, hx35, P⟩ := P.ix
    obtain ⟨u36, hu, r37⟩ := RepL.atE hr33 hx35
    refine h_ixL hs32 hu ?_
    cases r37
    refine h_var rfl ?_
    refine h_I0 ?_
    refine h_bl ?_
    refine h_ite (fun c1 => ?_) (fun c1 => ?_)
    · replace P := P.iteT c1
      refine h_set ?_
      refine h_op ?_
      refine h_op ?_
      refine h_var rfl ?_
      refine h_c ?_
      obtain ⟨xs39, hv, hs40, hr41⟩ := Mu.sq m_state
      obtain ⟨x42, hx43, P⟩ := P.ix
      obtain ⟨u44, hu, r45⟩ := RepL.atE hr41 hx43
      refine h_ixL hs40 hu ?_
      cases r45
      refine h_var rfl ?_
      obtain ⟨gd, P⟩ := P.guard
      refine h_I gd ?_
      replace P := P.lt
      generalize hx : (x42 % a_base) = x46 at P ⊢
      refine h_seq ?_
      refine h_asg ?_
      refine h_op ?_
      refine h_op ?_
      refine h_var rfl ?_
      refine h_c ?_
      obtain ⟨xs48, hv, hs49, hr50⟩ := Mu.sq m_state
      obtain ⟨x51, hx52, P⟩ := P.ix
      obtain ⟨u53, hu, r54⟩ := RepL.atE hr50 hx52
      refine h_ixL hs49 hu ?_
      cases r54
      refine h_var rfl ?_
      obtain ⟨gd, P⟩ := P.guard
      refine h_I gd ?_
      refine h_sub ?_
      refine h_var rfl ?_
      refine h_c ?_
      obtain ⟨j56, hj57, P⟩ := P.set
      refine h_setL (b := (x51 / a_base)) w m_state (Rep.int _) hj57 (fun H58 s59 m_state => ?_)
      replace st := st.go s59 (go1 (.inl (by simp)))
      replace w := s59.ok
      generalize hl : List.set a26 j56 (x51 / a_base) = x55 at *
      refine h_nx ?_
      refine h_ret ?_
      refine h_var rfl ?_
      exact P.ok _ _ _ st m_state (Rep.int _)
    · replace P := P.iteF c1
      refine h_next ?_
      refine h_nx ?_
      refine h_seq ?_
      refine h_asg ?_
      refine h_op ?_
      refine h_op ?_
      refine h_var rfl ?_
      refine h_c ?_
      obtain ⟨xs61, hv, hs62, hr63⟩ := Mu.sq m_state
      obtain ⟨x64, hx65, P⟩ := P.ix
      obtain ⟨u66, hu, r67⟩ := RepL.atE hr63 hx65
      refine h_ixL hs62 hu ?_
      cases r67
      refine h_c ?_
      refine h_I0 ?_
      refine h_sub ?_
      refine h_var rfl ?_
      refine h_c ?_
      obtain ⟨j69, hj70, P⟩ := P.set
      refine h_setL (b := (x64 + 1)) w m_state (Rep.int _) hj70 (fun H71 s72 m_state => ?_)
      replace st := st.go s72 (go1 (.inl (by simp)))
      replace w := s72.ok
      generalize hl : List.set a26 j69 (x64 + 1) = x68 at *
      refine h_nx ?_
      refine h_set ?_
      refine h_op ?_
      refine h_op ?_
      refine h_op ?_
      refine h_op ?_
      refine h_op ?_
      refine h_var rfl ?_
      refine h_c ?_
      obtain ⟨xs74, hv, hs75, hr76⟩ := Mu.sq m_state
      obtain ⟨x77, hx78, P⟩ := P.ix
      obtain ⟨u79, hu, r80⟩ := RepL.atE hr76 hx78
      refine h_ixL hs75 hu ?_
      cases r80
      refine h_op ?_
      refine h_c ?_
      refine h_op ?_
      refine h_var rfl ?_
      refine h_c ?_
      obtain ⟨xs82, hv, hs83, hr84⟩ := Mu.sq m_state
      obtain ⟨x85, hx86, P⟩ := P.ix
      obtain ⟨u87, hu, r88⟩ := RepL.atE hr84 hx86
      refine h_ixL hs83 hu ?_
      cases r88
      refine h_I (.inl ⟨by decide +kernel, by decide +kernel⟩) ?_
      refine h_I0 ?_
      refine h_c ?_
      refine h_I0 ?_
      refine h_c ?_
      refine h_I (.inr ⟨by decide +kernel, by decide +kernel⟩) ?_
      refine h_c ?_
      refine h_I (by decide +kernel) ?_
      replace P := P.lt
      generalize hx : ((((x77 + (7919 * x85)) + 1) * 48271) % 2147483647) = x89 at P ⊢
      refine h_set ?_
      refine h_op ?_
      refine h_op ?_
      refine h_var rfl ?_
      refine h_op ?_
      refine h_op ?_
      refine h_var rfl ?_
      refine h_c ?_
      refine h_I ⟨by decide +kernel, by decide +kernel⟩ ?_
      refine h_c ?_
      refine h_I0 ?_
      obtain ⟨gd, P⟩ := P.guard
      refine h_I gd ?_
      refine h_c ?_
      refine h_I (by decide +kernel) ?_
      replace P := P.lt
      generalize hx : ((x89 * ((x89 / 1009) + 69621)) % 2147483647) = x90 at P ⊢
      refine h_ret ?_
      refine h_op ?_
      refine h_op ?_
      refine h_op ?_
      refine h_var rfl ?_
      refine h_op ?_
      refine h_op ?_
      refine h_var rfl ?_
      refine h_c ?_
      refine h_I ⟨by decide +kernel, by decide +kernel⟩ ?_
      refine h_c ?_
      refine h_I0 ?_
      obtain ⟨gd, P⟩ := P.guard
      refine h_I gd ?_
      refine h_c ?_
      refine h_I (by decide +kernel) ?_
      refine h_var rfl ?_
      obtain ⟨gd, P⟩ := P.guard
      refine h_I gd ?_
      exact P.ok _ _ _ st m_state (Rep.int _)
theorem ok__law_figures {f : Addr} {fd : FuncData}  (F : Fun K "_law_figures" "_law_figures" s__law_figures f fd)  : FnOk Pr wo K mg base CX0 1 f fd ["_law_number"] (sp__law_figures K) := by
  refine F.ok sc__law_figures (fun vs H Q E h => ?_) (fun cdv A outer s H0 vs Q E hr h => ?_)
  · obtain ⟨_, _, _, rfl, _⟩ := h; rfl
  · obtain ⟨B0, a_number, w, rfl, P⟩ := h
    have w0 := w
    have hu := hu_of hr
    have hu64 := hu64_of hr
    have hu65 := hu65_of hr
    refine ⟨_, (pss_cons (ps_set (i := 1) sc__law_figures.nd rfl (by first | exact Or.inl rfl | exact Or.inr rfl) (pe_lst (pa_cons (pe_op op_mod (pv 0) pe_int) pa_nil)))
      (pss_cons (ps_while PassesOwn.never (pt_cmpR op_ge (pv 0) pe_int (nomark _)) (pss_cons (ps_set (i := 0) sc__law_figures.nd rfl (by first | exact Or.inl rfl | exact Or.inr rfl) (pe_op op_fdiv (pv 0) pe_int))
      (pss_one (ps_set (i := 1) sc__law_figures.nd rfl (by first | exact Or.inl rfl | exact Or.inr rfl) (pe_op (r := rCatQ K) op_catQ (pe_lst (pa_cons (pe_op op_add pe_int (pe_op op_mod (pv 0) pe_int)) pa_nil)) (pv 1))))))
      (pss_one (ps_ret (pv 1))))), ?_⟩
    unfold l_figures at P
    have st := Stp.refl (W := []) w
    refine h_set ?_
    refine h_lst ?_
    refine h_cons ?_
    refine h_op ?_
    refine h_var rfl ?_
    refine h_c ?_
    refine h_I (by decide +kernel) ?_
    refine h_nil ?_
    refine h_newL w (ds := (([(a_number % 128)] : List Int)).map enc) (K := K) (.cons (Rep.int _) .nil) (fun p1 B2 H3 s4 r5 => ?_) (by show 1 ≤ sizeLine; decide)
    replace st := st.go s4 go0
    replace w := s4.ok
    replace r5 : Rep K B2 (.ref p1) (enc ([(a_number % 128)] : List Int)) := r5
    refine h_seq ?_
    have wj7 := w
    have sj6 := Stp.refl (W := []) w
    refine h_while P (fun (a : Int × (List Int)) σ' H' => ∃ (B' : Hp) (v1 : V), Stp [] B2 H3 B' H' ∧ σ' = [some (.int a.1), some v1] ∧ Rep K B' v1 (enc a.2)) ⟨_, (.ref p1), sj6, rfl, r5⟩ ?_ ?_
    · rintro N8 C9 T10 a15 _ H17 ⟨B16, v19, s18, rfl, r20⟩ kn11 kk12 kr13 kb14 P
      replace st := st.go s18 go0
      replace w := s18.ok
      have sj6 := s18
      refine h_test ?_
      refine h_op ?_
      refine h_var rfl ?_
      refine h_c ?_
      refine h_I0 ?_
      refine h_bl ?_
      refine h_ite (fun c1 => ?_) (fun c1 => ?_)
      · replace P := P.iteT c1
        refine ⟨N8, kn11, ?_⟩
        refine h_set ?_
        refine h_op ?_
        refine h_var rfl ?_
        refine h_c ?_
        refine h_I ⟨by decide +kernel, by decide +kernel⟩ ?_
        replace P := P.lt
        generalize hx : (a15.1 / 128) = x21 at P ⊢
        refine h_set1 ?_
        refine h_op ?_
        refine h_lst ?_
        refine h_cons ?_
        refine h_op ?_
        refine h_c ?_
        refine h_op ?_
        refine h_var rfl ?_
        refine h_c ?_
        refine h_I (by decide +kernel) ?_
        refine h_I0 ?_
        refine h_nil ?_
        refine h_newL w (ds := (([(128 + (x21 % 128))] : List Int)).map enc) (K := K) (.cons (Rep.int _) .nil) (fun p22 B23 H24 s25 r26 => ?_) (by show 1 ≤ sizeLine; decide)
        replace r20 := r20.mono s25.ex
        replace st := st.go s25 go0
        replace sj6 := sj6.go s25 go0
        replace w := s25.ok
        replace r26 : Rep K B23 (.ref p22) (enc ([(128 + (x21 % 128))] : List Int)) := r26
        refine h_var rfl ?_
        obtain ⟨p27, xs28, hv, hs29, hr30⟩ := Rep.sq w r26
        cases hv
        obtain ⟨p31, xs32, rfl, hs33, hr34⟩ := Rep.sq w r20
        obtain ⟨gd, P⟩ := P.guard
        refine h_cat hs29 hs33 (by have g := gd; simp only [hr30.length, hr34.length, List.length_map] at g ⊢; exact Nat.le_trans g (by decide)) ?_
        refine h_nwL w (ds := ((([(128 + (x21 % 128))] : List Int) ++ a15.2)).map enc) (K := K) (RepL.cat hr30 hr34) (fun p35 B36 H37 s38 r39 => ?_) 
        replace r20 := r20.mono s38.ex
        replace st := st.go s38 go0
        replace sj6 := sj6.go s38 go0
        replace w := s38.ok
        replace r39 : Rep K B36 (.ref p35) (enc (([(128 + (x21 % 128))] : List Int) ++ a15.2)) := r39
        refine h_nx ?_
        exact kk12 (x21, (([(128 + (x21 % 128))] : List Int) ++ a15.2)) _ _ ⟨_, (.ref p35), sj6, rfl, r39⟩ P.ok
      · replace P := P.iteF c1
        exact kb14 (a15.1, a15.2) _ _ ⟨_, v19, sj6, rfl, r20⟩ P.ok
    · rintro a40 _ H42 ⟨B41, v44, s43, rfl, r45⟩ P
      replace st := st.go s43 go0
      replace w := s43.ok
      refine h_nx ?_
      refine h_ret ?_
      refine h_var rfl ?_
      exact P.ok _ _ _ st r45
theorem ok__law_number_at {f : Addr} {fd : FuncData}  (F : Fun K "_law_number_at" "_law_number_at" s__law_number_at f fd) (bI_range : mg "range" = none) (bI_len : mg "len" = none) : FnOk Pr wo K mg base CX0 1 f fd ["_law_row", "_law_at"] (sp__law_number_at K) := by
  refine F.ok sc__law_number_at (fun vs H Q E h => ?_) (fun cdv A outer s H0 vs Q E hr h => ?_)
  · obtain ⟨_, _, _, _, _, rfl, _⟩ := h; rfl
  · obtain ⟨B0, v_row, a_row, a_at, w, rfl, r_row, P⟩ := h
    have w0 := w
    have hu := hu_of hr
    have hu64 := hu64_of hr
    have hu65 := hu65_of hr
    refine ⟨_, (pss_cons (ps_if (PW.pt (pw_or (pt_cmpR op_ge (pv 1) (pe_callB (r := rLenY K) cr_len (by rfl) bI_len PySem.boot_len (pa_cons (pv 0) pa_nil)) (nomark _)) (pw_or1 (pt_cmpR op_eq (pe_ix (r := rIxL K) ix_list (pv 0) (pv 1) (fun _ _ => rfl)) pe_int (nomark _))))) (pss_one (ps_ret pe_non)) pss_nil)
      (pss_cons (ps_set (i := 2) sc__law_number_at.nd rfl (by first | exact Or.inl rfl | exact Or.inr rfl) pe_int)
      (pss_cons (ps_for PassesOwn.never rfl (pi_range2 (by rfl) bI_range (pa_cons (pv 1) (pa_cons (pe_callB (r := rLenY K) cr_len (by rfl) bI_len PySem.boot_len (pa_cons (pv 0) pa_nil)) pa_nil))) (pg_name (i := 3) sc__law_number_at.nd rfl (by first | exact Or.inl rfl | exact Or.inr rfl)) (pss_cons (ps_set (i := 2) sc__law_number_at.nd rfl (by first | exact Or.inl rfl | exact Or.inr rfl) (pe_op op_add (pe_op op_mul (pv 2) pe_int) (pe_op op_mod (pe_ix (r := rIxL K) ix_list (pv 0) (pv 3) (fun _ _ => rfl)) pe_int)))
      (pss_cons (ps_if (pt_cmpR op_gt (pv 2) (pe_op op_pow pe_int pe_int) (nomark _)) (pss_one (ps_ret pe_non)) pss_nil)
      (pss_one (ps_if (pt_cmpR op_lt (pe_ix (r := rIxL K) ix_list (pv 0) (pv 3) (fun _ _ => rfl)) pe_int (nomark _)) (pss_one (ps_ret (pe_tup (pa_cons (pv 2) (pa_cons (pe_op op_add (pv 3) pe_int) pa_nil))))) pss_nil)))))
      (pss_one (ps_ret pe_non))))), ?_⟩
    unfold l_number_at at P
    have st := Stp.refl (W := []) w
    refine h_seq <| h_if ?_
    refine h_tor ?_
    refine h_test ?_
    refine h_op ?_
    refine h_var rfl ?_
    refine h_cb ?_
    refine h_cons ?_
    refine h_var rfl ?_
    refine h_nil ?_
    obtain ⟨p1, xs2, rfl, hs3, hr4⟩ := Rep.sq w (r_row.mono st.ex)
    refine h_len hs3 hr4 ?_
    refine h_I0 ?_
    refine h_bl ?_
    refine h_ite (fun c1 => ?_) (fun c1 => ?_)
    · replace P := P.iteT c1
      refine h_iteT ?_
      refine h_ret ?_
      refine h_c ?_
      exact P.ok _ _ _ st Rep.non
    · replace P := P.iteF c1
      refine h_test ?_
      refine h_op ?_
      refine h_op ?_
      refine h_var rfl ?_
      refine h_var rfl ?_
      obtain ⟨p5, xs6, hv, hs7, hr8⟩ := Rep.sq w (r_row.mono st.ex)
      cases hv
      obtain ⟨x9, hx10, P⟩ := P.ix
      obtain ⟨u11, hu, r12⟩ := RepL.atE hr8 hx10
      refine h_ixL hs7 hu ?_
      cases r12
      refine h_c ?_
      refine h_eqI ?_
      refine h_bl ?_
      refine h_ite (fun c1 => ?_) (fun c1 => ?_)
      · replace P := P.iteT c1
        refine h_ret ?_
        refine h_c ?_
        exact P.ok _ _ _ st Rep.non
      · replace P := P.iteF c1
        refine h_next ?_
        refine h_nx ?_
        refine h_set ?_
        refine h_c ?_
        refine h_seq ?_
        refine h_rng2 ?_
        refine h_cons ?_
        refine h_var rfl ?_
        refine h_cons ?_
        refine h_cb ?_
        refine h_cons ?_
        refine h_var rfl ?_
        refine h_nil ?_
        obtain ⟨p13, xs14, hv, hs15, hr16⟩ := Rep.sq w (r_row.mono st.ex)
        cases hv
        refine h_len hs15 hr16 ?_
        refine h_nil ?_
        obtain ⟨gz17, P⟩ := P.guard
        have wj19 := w
        have sj18 := Stp.refl (W := []) w
        refine h_forR2 P gz17 (fun (a : Int) σ' H' => ∃ (B' : Hp) (o__law_place : Option V), Stp [] B0 H0 B' H' ∧ σ' = [some ((.ref p1)), some (.int a_at), some (.int a), o__law_place]) ⟨_, _, sj18, rfl⟩ ?_ ?_
        · rintro N20 T21 x26 a25 _ H30 ⟨B29, o32, s31, rfl⟩ hlox26 hhix26 kk22 kr23 kb24 P
          replace st := st.go s31 go0
          replace w := s31.ok
          have sj18 := s31
          refine h_gname ?_
          refine h_set ?_
          refine h_op ?_
          refine h_op ?_
          refine h_var rfl ?_
          refine h_c ?_
          refine h_I (.inr ⟨by decide +kernel, by decide +kernel⟩) ?_
          refine h_op ?_
          refine h_op ?_
          refine h_var rfl ?_
          refine h_var rfl ?_
          obtain ⟨p33, xs34, hv, hs35, hr36⟩ := Rep.sq w (r_row.mono st.ex)
          cases hv
          obtain ⟨x37, hx38, P⟩ := P.ix
          obtain ⟨u39, hu, r40⟩ := RepL.atE hr36 hx38
          refine h_ixL hs35 hu ?_
          cases r40
          refine h_c ?_
          refine h_I (by decide +kernel) ?_
          refine h_I0 ?_
          replace P := P.lt
          generalize hx : ((a25 * 128) + (x37 % 128)) = x41 at P ⊢
          refine h_seq <| h_if ?_
          refine h_test ?_
          refine h_op ?_
          refine h_var rfl ?_
          refine h_op (h_c (h_c (h_pow (k := 1000000000000000000000000000000000000000000000000000000000000) (by decide +kernel) (by decide +kernel) ?_)))
          refine h_I0 ?_
          refine h_bl ?_
          refine h_ite (fun c1 => ?_) (fun c1 => ?_)
          · replace P := P.iteT c1
            refine h_ret ?_
            refine h_c ?_
            exact (kr23 _ P.ok) _ _ _ st Rep.non
          · replace P := P.iteF c1
            refine h_next ?_
            refine h_nx ?_
            refine h_if ?_
            refine h_test ?_
            refine h_op ?_
            refine h_op ?_
            refine h_var rfl ?_
            refine h_var rfl ?_
            obtain ⟨p42, xs43, hv, hs44, hr45⟩ := Rep.sq w (r_row.mono st.ex)
            cases hv
            obtain ⟨x46, hx47, P⟩ := P.ix
            obtain ⟨u48, hu, r49⟩ := RepL.atE hr45 hx47
            refine h_ixL hs44 hu ?_
            cases r49
            refine h_c ?_
            refine h_I0 ?_
            refine h_bl ?_
            refine h_ite (fun c1 => ?_) (fun c1 => ?_)
            · replace P := P.iteT c1
              refine h_ret ?_
              refine h_tup ?_
              refine h_cons ?_
              refine h_var rfl ?_
              refine h_cons ?_
              refine h_op ?_
              refine h_var rfl ?_
              refine h_c ?_
              refine h_I0 ?_
              refine h_nil ?_
              refine h_newT w (K := K) (.cons (Rep.int _) (.cons (Rep.int _) .nil)) (fun p50 B51 H52 s53 r54 => ?_) (by show 2 ≤ sizeLine; decide)
              replace st := st.go s53 go0
              replace sj18 := sj18.go s53 go0
              replace w := s53.ok
              replace r54 : Rep K B51 (.ref p50) (enc (⟨x41, (x26 + 1)⟩ : (Tp2 Int Int))) := r54
              exact (kr23 _ P.ok) _ _ _ st r54
            · replace P := P.iteF c1
              refine h_next ?_
              refine h_nx ?_
              exact kk22 x41 _ _ ⟨_, _, sj18, rfl⟩ P.ok
        · rintro a55 _ H57 ⟨B56, o59, s58, rfl⟩ P
          replace st := st.go s58 go0
          replace w := s58.ok
          refine h_nx ?_
          refine h_ret ?_
          refine h_c ?_
          exact P.ok _ _ _ st Rep.non
theorem ok__law_odd_row {f : Addr} {fd : FuncData}  (F : Fun K "_law_odd_row" "_law_odd_row" s__law_odd_row f fd) {f__law_digit : Addr} {d__law_digit : FuncData} (g__law_digit : mg "_law_digit" = some (.ref f__law_digit)) (k__law_digit : PySem.W.keepIn K (.ref f__law_digit) = true) (b__law_digit : L2.Binds K d__law_digit ["_law_state", "_law_base"] []) (G__law_digit : FnOk Pr wo K mg base CX0 1 f__law_digit d__law_digit ["_law_state", "_law_base"] (sp__law_digit K)) (bI_len : mg "len" = none) (bI_tuple : mg "tuple" = none) : FnOk Pr wo K mg base CX0 2 f fd ["_law_state", "_law_row"] (sp__law_odd_row K) := by
  refine F.ok sc__law_odd_row (fun vs H Q E h => ?_) (fun cdv A outer s H0 vs Q E hr h => ?_)
  · obtain ⟨_, _, _, _, _, _, rfl, _⟩ := h; rfl
  · obtain ⟨B0, p_state, a_state, v_row, a_row, w, rfl, m_state, r_row, P⟩ := h
    have w0 := w
    have hu := hu_of hr
    have hu64 := hu64_of hr
    have hu65 := hu65_of hr
    have hr1 : Room 1 _ := hr.mono (by decide)
    refine ⟨_, (pss_cons (ps_if (pt_cmpR op_eq (pe_call G__law_digit hr1 rfl g__law_digit k__law_digit b__law_digit .nil pass0 (pa_cons (pv 0) (pa_cons pe_int pa_nil))) pe_int (nomark _)) (pss_one (ps_ret (pe_ix (r := rIxL K) ix_list (pe_lst (pa_cons pe_non (pa_cons (pe_callTy (r := rTupY K) cr_tuple (by rfl) bI_tuple Y.boot_tuple (pa_cons (pv 1) pa_nil)) (pa_cons pe_str (pa_cons pe_int (pa_cons pe_dnewK (pa_cons pe_str (pa_cons pe_int pa_nil)))))))) (pe_call G__law_digit hr1 rfl g__law_digit k__law_digit b__law_digit .nil pass0 (pa_cons (pv 0) (pa_cons pe_int pa_nil))) (fun _ _ => rfl)))) pss_nil)
      (pss_cons (ps_set (i := 2) sc__law_odd_row.nd rfl (by first | exact Or.inl rfl | exact Or.inr rfl) (pe_ix (r := rIxL K) ix_list (pe_lst (pa_cons pe_int (pa_cons (pe_un un_neg pe_int) (pa_cons (pe_cmpR op_eq pe_int pe_int (nomark _)) (pa_cons pe_non (pa_cons pe_str (pa_cons (pe_lst (pa_cons pe_int pa_nil)) (pa_cons (pe_tup (pa_cons pe_int pa_nil)) (pa_cons (pe_op op_pow pe_int pe_int) (pa_cons (pe_un un_neg pe_int) (pa_cons (pe_cmpR op_eq pe_int pe_int (nomark _)) pa_nil))))))))))) (pe_call G__law_digit hr1 rfl g__law_digit k__law_digit b__law_digit .nil pass0 (pa_cons (pv 0) (pa_cons pe_int pa_nil))) (fun _ _ => rfl)))
      (pss_cons (ps_set (i := 3) sc__law_odd_row.nd rfl (by first | exact Or.inl rfl | exact Or.inr rfl) (pe_call G__law_digit hr1 rfl g__law_digit k__law_digit b__law_digit .nil pass0 (pa_cons (pv 0) (pa_cons (pe_op op_add (pe_callB (r := rLenY K) cr_len (by rfl) bI_len PySem.boot_len (pa_cons (pv 1) pa_nil)) pe_int) pa_nil))))
      (pss_one (ps_ret (pe_op (r := rCatQ K) op_catQ (pe_op (r := rCatQ K) op_catQ (pe_slice (r := rSlQ K) sl_Q (pv 1) po_none (po_some (pv 3))) (pe_lst (pa_cons (pv 2) pa_nil))) (pe_slice (r := rSlQ K) sl_Q (pv 1) (po_some (pv 3)) po_none))))))), ?_⟩
    unfold l_odd_row at P
    have st := Stp.refl (W := [p_state]) w
    refine h_seq <| h_if ?_
    refine h_test ?_
    refine h_op ?_
    refine h_call ?_
    refine h_cons ?_
    refine h_var rfl ?_
    refine h_cons ?_
    refine h_c ?_
    refine h_nil ?_
    refine ⟨B0, p_state, a_state, 4, w, rfl, m_state, (P.bind).mono (fun x1 P => ?_) (fun _ z => z)⟩
    refine fun v5 B2 H3 s4 m_state r6 => ?_
    replace st := st.go s4 (go1 (.inl (by simp)))
    replace w := s4.ok
    cases r6
    refine h_c ?_
    refine h_eqI ?_
    refine h_bl ?_
    refine h_ite (fun c1 => ?_) (fun c1 => ?_)
    · replace P := P.iteT c1
      refine h_ret ?_
      refine h_op ?_
      refine h_lst ?_
      refine h_cons ?_
      refine h_c ?_
      refine h_cons ?_
      refine h_cb ?_
      refine h_cons ?_
      refine h_var rfl ?_
      refine h_nil ?_
      obtain ⟨p7, xs8, rfl, hs9, hr10⟩ := Rep.sq w (r_row.mono st.ex)
      refine h_tupL hs9 (h_nwT w (K := K) hr10 (fun p11 B12 H13 s14 r15 => ?_))
      replace m_state := m_state.step s14 nm0
      replace st := st.go s14 go0
      replace w := s14.ok
      refine h_cons ?_
      refine h_c ?_
      refine h_cons ?_
      refine h_c ?_
      refine h_cons ?_
      refine h_dnew w (K := K) (fun p16 B17 H18 s19 r20 => ?_)
      replace m_state := m_state.step s19 nm0
      replace r15 := r15.mono s19.ex
      replace st := st.go s19 go0
      replace w := s19.ok
      refine h_cons ?_
      refine h_c ?_
      refine h_cons ?_
      refine h_c ?_
      refine h_nil ?_
      refine h_newL w (ds := (([(enc ()), (.tup (a_row.map enc) : D), (enc ("" : Str)), (enc (0 : Int)), (.dic [] : D), (enc ("ab" : Str)), (enc (255 : Int))] : List D)).map enc) (K := K) (.cons Rep.non (.cons r15 (.cons (Rep.str _) (.cons (Rep.int _) (.cons r20 (.cons (Rep.str _) (.cons (Rep.int _) .nil))))))) (fun p21 B22 H23 s24 r25 => ?_) (by show 7 ≤ sizeLine; decide)
      replace m_state := m_state.step s24 nm0
      replace st := st.go s24 go0
      replace w := s24.ok
      replace r25 : Rep K B22 (.ref p21) (enc ([(enc ()), (.tup (a_row.map enc) : D), (enc ("" : Str)), (enc (0 : Int)), (.dic [] : D), (enc ("ab" : Str)), (enc (255 : Int))] : List D)) := r25
      refine h_call ?_
      refine h_cons ?_
      refine h_var rfl ?_
      refine h_cons ?_
      refine h_c ?_
      refine h_nil ?_
      refine ⟨B22, p_state, x1.2, 7, w, rfl, m_state, (P.bind).mono (fun x26 P => ?_) (fun _ z => z)⟩
      refine fun v30 B27 H28 s29 m_state r31 => ?_
      replace r25 := r25.mono s29.ex
      replace st := st.go s29 (go1 (.inl (by simp)))
      replace w := s29.ok
      cases r31
      obtain ⟨p32, xs33, hv, hs34, hr35⟩ := Rep.sq w r25
      cases hv
      obtain ⟨x36, hx37, P⟩ := P.ix
      obtain ⟨u38, hu, r39⟩ := RepL.atE hr35 hx37
      refine h_ixL hs34 hu ?_
      exact P.ok _ _ _ st m_state r39
    · replace P := P.iteF c1
      refine h_next ?_
      refine h_nx ?_
      refine h_set ?_
      refine h_op ?_
      refine h_lst ?_
      refine h_cons ?_
      refine h_c ?_
      refine h_cons ?_
      refine h_un ?_
      refine h_c ?_
      refine h_U ?_
      refine h_cons ?_
      refine h_op ?_
      refine h_c ?_
      refine h_c ?_
      refine h_eqI ?_
      refine h_cons ?_
      refine h_c ?_
      refine h_cons ?_
      refine h_c ?_
      refine h_cons ?_
      refine h_lst ?_
      refine h_cons ?_
      refine h_c ?_
      refine h_nil ?_
      refine h_newL w (ds := (([0] : List Int)).map enc) (K := K) (.cons (Rep.int _) .nil) (fun p40 B41 H42 s43 r44 => ?_) (by show 1 ≤ sizeLine; decide)
      replace m_state := m_state.step s43 nm0
      replace st := st.go s43 go0
      replace w := s43.ok
      replace r44 : Rep K B41 (.ref p40) (enc ([0] : List Int)) := r44
      refine h_cons ?_
      refine h_tup ?_
      refine h_cons ?_
      refine h_c ?_
      refine h_nil ?_
      refine h_newT w (K := K) (.cons (Rep.int _) .nil) (fun p45 B46 H47 s48 r49 => ?_) (by show 1 ≤ sizeLine; decide)
      replace m_state := m_state.step s48 nm0
      replace r44 := r44.mono s48.ex
      replace st := st.go s48 go0
      replace w := s48.ok
      replace r49 : Rep K B46 (.ref p45) (enc (⟨0⟩ : (Tp1 Int))) := r49
      refine h_cons ?_
      refine h_op (h_c (h_c (h_pow (k := 1000000000) (by decide +kernel) (by decide +kernel) ?_)))
      refine h_cons ?_
      refine h_un ?_
      refine h_c ?_
      refine h_U ?_
      refine h_cons ?_
      refine h_op ?_
      refine h_c ?_
      refine h_c ?_
      refine h_eqI ?_
      refine h_nil ?_
      refine h_newL w (ds := (([(enc (256 : Int)), (enc ((-1) : Int)), (enc (decide (1 = 1))), (enc ()), (enc ("0" : Str)), (enc ([0] : List Int)), (enc (⟨0⟩ : (Tp1 Int))), (enc (1000000000 : Int)), (enc ((-256) : Int)), (enc (decide (1 = 2)))] : List D)).map enc) (K := K) (.cons (Rep.int _) (.cons (Rep.int _) (.cons (Rep.bl _) (.cons Rep.non (.cons (Rep.str _) (.cons r44 (.cons r49 (.cons (Rep.int _) (.cons (Rep.int _) (.cons (Rep.bl _) .nil)))))))))) (fun p50 B51 H52 s53 r54 => ?_) (by show 10 ≤ sizeLine; decide)
      replace m_state := m_state.step s53 nm0
      replace st := st.go s53 go0
      replace w := s53.ok
      replace r54 : Rep K B51 (.ref p50) (enc ([(enc (256 : Int)), (enc ((-1) : Int)), (enc (decide (1 = 1))), (enc ()), (enc ("0" : Str)), (enc ([0] : List Int)), (enc (⟨0⟩ : (Tp1 Int))), (enc (1000000000 : Int)), (enc ((-256) : Int)), (enc (decide (1 = 2)))] : List D)) := r54
      refine h_call ?_
      refine h_cons ?_
      refine h_var rfl ?_
      refine h_cons ?_
      refine h_c ?_
      refine h_nil ?_
      refine ⟨B51, p_state, x1.2, 10, w, rfl, m_state, (P.bind).mono (fun x55 P => ?_) (fun _ z => z)⟩
      refine fun v59 B56 H57 s58 m_state r60 => ?_
      replace r54 := r54.mono s58.ex
      replace st := st.go s58 (go1 (.inl (by simp)))
      replace w := s58.ok
      cases r60
      obtain ⟨p61, xs62, hv, hs63, hr64⟩ := Rep.sq w r54
      cases hv
      obtain ⟨x65, hx66, P⟩ := P.ix
      obtain ⟨u67, hu, r68⟩ := RepL.atE hr64 hx66
      refine h_ixL hs63 hu ?_
      refine h_set ?_
      refine h_call ?_
      refine h_cons ?_
      refine h_var rfl ?_
      refine h_cons ?_
      refine h_op ?_
      refine h_cb ?_
      refine h_cons ?_
      refine h_var rfl ?_
      refine h_nil ?_
      obtain ⟨p69, xs70, rfl, hs71, hr72⟩ := Rep.sq w (r_row.mono st.ex)
      refine h_len hs71 hr72 ?_
      refine h_c ?_
      refine h_I0 ?_
      refine h_nil ?_
      refine ⟨B56, p_state, x55.2, ((a_row.length : Int) + 1), w, rfl, m_state, (P.bind).mono (fun x73 P => ?_) (fun _ z => z)⟩
      refine fun v77 B74 H75 s76 m_state r78 => ?_
      replace r68 := r68.mono s76.ex
      replace st := st.go s76 (go1 (.inl (by simp)))
      replace w := s76.ok
      cases r78
      refine h_ret ?_
      refine h_op ?_
      refine h_op ?_
      refine h_sl ?_
      refine h_var rfl ?_
      refine h_nopart ?_
      refine h_part ?_
      refine h_var rfl ?_
      refine h_isI ?_
      obtain ⟨p79, xs80, hv, hs81, hr82⟩ := Rep.sq w (r_row.mono st.ex)
      cases hv
      refine h_slQ hs81 ?_
      refine h_nwL w (ds := ((cutL a_row none (some x73.1))).map enc) (K := K) (hr82.cut none (some x73.1)) (fun p83 B84 H85 s86 r87 => ?_) 
      replace m_state := m_state.step s86 nm0
      replace r68 := r68.mono s86.ex
      replace st := st.go s86 go0
      replace w := s86.ok
      replace r87 : Rep K B84 (.ref p83) (enc (cutL a_row none (some x73.1))) := r87
      refine h_lst ?_
      refine h_cons ?_
      refine h_var rfl ?_
      refine h_nil ?_
      refine h_newL w (ds := (([x65] : List D)).map enc) (K := K) (.cons r68 .nil) (fun p88 B89 H90 s91 r92 => ?_) (by show 1 ≤ sizeLine; decide)
      replace m_state := m_state.step s91 nm0
      replace r68 := r68.mono s91.ex
      replace r87 := r87.mono s91.ex
      replace st := st.go s91 go0
      replace w := s91.ok
      replace r92 : Rep K B89 (.ref p88) (enc ([x65] : List D)) := r92
      obtain ⟨p93, xs94, hv, hs95, hr96⟩ := Rep.sq w r87
      cases hv
      obtain ⟨p97, xs98, hv, hs99, hr100⟩ := Rep.sq w r92
      cases hv
      replace hr96 := hr96.toD
      obtain ⟨gd, P⟩ := P.guard
      refine h_cat hs95 hs99 (by have g := gd; simp only [hr96.length, hr100.length, List.length_map] at g ⊢; exact Nat.le_trans g (by decide)) ?_
      refine h_nwL w (ds := ((((cutL a_row none (some x73.1)).map enc : List D) ++ ([x65] : List D))).map enc) (K := K) (RepL.cat hr96 hr100) (fun p101 B102 H103 s104 r105 => ?_) 
      replace m_state := m_state.step s104 nm0
      replace r68 := r68.mono s104.ex
      replace st := st.go s104 go0
      replace w := s104.ok
      replace r105 : Rep K B102 (.ref p101) (enc (((cutL a_row none (some x73.1)).map enc : List D) ++ ([x65] : List D))) := r105
      refine h_sl ?_
      refine h_var rfl ?_
      refine h_part ?_
      refine h_var rfl ?_
      refine h_isI ?_
      refine h_nopart ?_
      obtain ⟨p106, xs107, hv, hs108, hr109⟩ := Rep.sq w (r_row.mono st.ex)
      cases hv
      refine h_slQ hs108 ?_
      refine h_nwL w (ds := ((cutL a_row (some x73.1) none)).map enc) (K := K) (hr109.cut (some x73.1) none) (fun p110 B111 H112 s113 r114 => ?_) 
      replace m_state := m_state.step s113 nm0
      replace r68 := r68.mono s113.ex
      replace r105 := r105.mono s113.ex
      replace st := st.go s113 go0
      replace w := s113.ok
      replace r114 : Rep K B111 (.ref p110) (enc (cutL a_row (some x73.1) none)) := r114
      obtain ⟨p115, xs116, hv, hs117, hr118⟩ := Rep.sq w r105
      cases hv
      obtain ⟨p119, xs120, hv, hs121, hr122⟩ := Rep.sq w r114
      cases hv
      replace hr122 := hr122.toD
      obtain ⟨gd, P⟩ := P.guard
      refine h_cat hs117 hs121 (by have g := gd; simp only [hr118.length, hr122.length, List.length_map] at g ⊢; exact Nat.le_trans g (by decide)) ?_
      refine h_nwL w (ds := (((((cutL a_row none (some x73.1)).map enc : List D) ++ ([x65] : List D)) ++ ((cutL a_row (some x73.1) none).map enc : List D))).map enc) (K := K) (RepL.cat hr118 hr122) (fun p123 B124 H125 s126 r127 => ?_) 
      replace m_state := m_state.step s126 nm0
      replace r68 := r68.mono s126.ex
      replace st := st.go s126 go0
      replace w := s126.ok
      replace r127 : Rep K B124 (.ref p123) (enc ((((cutL a_row none (some x73.1)).map enc : List D) ++ ([x65] : List D)) ++ ((cutL a_row (some x73.1) none).map enc : List D))) := r127
      exact P.ok _ _ _ st m_state r127
theorem ok__law_bytes {f : Addr} {fd : FuncData}  (F : Fun K "_law_bytes" "_law_bytes" s__law_bytes f fd) {f__law_digit : Addr} {d__law_digit : FuncData} (g__law_digit : mg "_law_digit" = some (.ref f__law_digit)) (k__law_digit : PySem.W.keepIn K (.ref f__law_digit) = true) (b__law_digit : L2.Binds K d__law_digit ["_law_state", "_law_base"] []) (G__law_digit : FnOk Pr wo K mg base CX0 1 f__law_digit d__law_digit ["_law_state", "_law_base"] (sp__law_digit K)) (bI_range : mg "range" = none) : FnOk Pr wo K mg base CX0 2 f fd ["_law_state", "_law_many"] (sp__law_bytes K) := by
  refine F.ok sc__law_bytes (fun vs H Q E h => ?_) (fun cdv A outer s H0 vs Q E hr h => ?_)
  · obtain ⟨_, _, _, _, _, rfl, _⟩ := h; rfl
  · obtain ⟨B0, p_state, a_state, a_many, w, rfl, m_state, P⟩ := h
    have w0 := w
    have hu := hu_of hr
    have hu64 := hu64_of hr
    have hu65 := hu65_of hr
    have hr1 : Room 1 _ := hr.mono (by decide)
    refine ⟨_, (pss_cons (ps_set (i := 2) sc__law_bytes.nd rfl (by first | exact Or.inl rfl | exact Or.inr rfl) (pe_call G__law_digit hr1 rfl g__law_digit k__law_digit b__law_digit .nil pass0 (pa_cons (pv 0) (pa_cons pe_int pa_nil))))
      (pss_cons (ps_set (i := 3) sc__law_bytes.nd rfl (by first | exact Or.inl rfl | exact Or.inr rfl) (pe_lst pa_nil))
      (pss_cons (ps_for PassesOwn.never rfl (pi_range1 (by rfl) bI_range (pa_cons (pv 1) pa_nil)) (pg_name (i := 4) sc__law_bytes.nd rfl (by first | exact Or.inl rfl | exact Or.inr rfl)) (pss_cons (ps_set (i := 5) sc__law_bytes.nd rfl (by first | exact Or.inl rfl | exact Or.inr rfl) (pe_call G__law_digit hr1 rfl g__law_digit k__law_digit b__law_digit .nil pass0 (pa_cons (pv 0) (pa_cons pe_int pa_nil))))
      (pss_one (ps_expr (pe_bm PySem.F.plainAttrs_list PySem.F.slot_list_append PySem.F.type_list_append mt_append (pv 3) (pa_cons (pe_ix (r := rIxL K) ix_list (pe_lst (pa_cons (pv 5) (pa_cons (pe_op op_mod (pv 5) pe_int) (pa_cons (pe_ix (r := rIxL K) ix_list (pe_lst (pa_cons pe_int (pa_cons pe_int (pa_cons pe_int (pa_cons pe_int (pa_cons pe_int (pa_cons (pv 5) pa_nil))))))) (pe_op op_mod (pv 5) pe_int) (fun _ _ => rfl)) pa_nil)))) (pv 2) (fun _ _ => rfl)) pa_nil))))))
      (pss_one (ps_ret (pv 3)))))), ?_⟩
    unfold l_bytes at P
    have st := Stp.refl (W := [p_state]) w
    refine h_set ?_
    refine h_call ?_
    refine h_cons ?_
    refine h_var rfl ?_
    refine h_cons ?_
    refine h_c ?_
    refine h_nil ?_
    refine ⟨B0, p_state, a_state, 3, w, rfl, m_state, (P.bind).mono (fun x1 P => ?_) (fun _ z => z)⟩
    refine fun v5 B2 H3 s4 m_state r6 => ?_
    replace st := st.go s4 (go1 (.inl (by simp)))
    replace w := s4.ok
    cases r6
    refine h_set ?_
    refine h_lst ?_
    refine h_nil ?_
    refine h_newM w (ds := (([] : List Int)).map enc) (K := K) .nil (fun p7 H8 hn11 s9 m10 => ?_) (by show 0 ≤ sizeLine; decide)
    have n12 := st.nn hn11
    have ne13 := Mu.ne m_state hn11
    replace m_state := m_state.step s9 nm0
    replace st := st.go s9 go0
    replace w := s9.ok
    refine h_seq ?_
    refine h_rng1 ?_
    refine h_cons ?_
    refine h_var rfl ?_
    refine h_nil ?_
    obtain ⟨gz14, P⟩ := P.guard
    have wj16 := w
    have sj15 := Stp.refl (W := [p_state, p7]) w
    refine h_forR1 P gz14 (fun (a : (List Int) × (List Int)) σ' H' => ∃ (B' : Hp) (o__law_byte : Option V) (o__law_k : Option V), Stp [p_state, p7] B2 H8 B' H' ∧ σ' = [some ((.ref p_state)), some (.int a_many), some (.int x1.1), some ((.ref p7)), o__law_k, o__law_byte] ∧ Mu K B' H' p_state (a.1.map enc) ∧ Mu K B' H' p7 (a.2.map enc)) ⟨_, _, _, sj15, rfl, m_state, m10⟩ ?_ ?_
    · rintro N17 T18 x23 a22 _ H27 ⟨B26, o29, o30, s28, rfl, m_state, m10⟩ hlox23 hhix23 kk19 kr20 kb21 P
      replace st := st.go s28 (go2 (.inl (by simp)) (.inr n12))
      replace w := s28.ok
      have sj15 := s28
      refine h_gname ?_
      refine h_set ?_
      refine h_call ?_
      refine h_cons ?_
      refine h_var rfl ?_
      refine h_cons ?_
      refine h_c ?_
      refine h_nil ?_
      refine ⟨B26, p_state, a22.1, 256, w, rfl, m_state, (P.bind).mono (fun x31 P => ?_) (fun _ z => z)⟩
      refine fun v35 B32 H33 s34 m_state r36 => ?_
      replace m10 := m10.step s34 (nm1 ne13.symm)
      replace st := st.go s34 (go1 (.inl (by simp)))
      replace sj15 := sj15.go s34 (go1 (.inl (by simp)))
      replace w := s34.ok
      cases r36
      refine h_drop ?_
      refine h_bm ?_
      refine h_var rfl ?_
      refine h_bmL m10 ?_
      refine h_cons ?_
      refine h_op ?_
      refine h_lst ?_
      refine h_cons ?_
      refine h_var rfl ?_
      refine h_cons ?_
      refine h_op ?_
      refine h_var rfl ?_
      refine h_c ?_
      refine h_I (by decide +kernel) ?_
      refine h_cons ?_
      refine h_op ?_
      refine h_lst ?_
      refine h_cons ?_
      refine h_c ?_
      refine h_cons ?_
      refine h_c ?_
      refine h_cons ?_
      refine h_c ?_
      refine h_cons ?_
      refine h_c ?_
      refine h_cons ?_
      refine h_c ?_
      refine h_cons ?_
      refine h_var rfl ?_
      refine h_nil ?_
      refine h_newL w (ds := (([0, 0, 1, 2, 255, x31.1] : List Int)).map enc) (K := K) (.cons (Rep.int _) (.cons (Rep.int _) (.cons (Rep.int _) (.cons (Rep.int _) (.cons (Rep.int _) (.cons (Rep.int _) .nil)))))) (fun p37 B38 H39 s40 r41 => ?_) (by show 6 ≤ sizeLine; decide)
      replace m_state := m_state.step s40 nm0
      replace m10 := m10.step s40 nm0
      replace st := st.go s40 go0
      replace sj15 := sj15.go s40 go0
      replace w := s40.ok
      replace r41 : Rep K B38 (.ref p37) (enc ([0, 0, 1, 2, 255, x31.1] : List Int)) := r41
      refine h_op ?_
      refine h_var rfl ?_
      refine h_c ?_
      refine h_I (by decide +kernel) ?_
      obtain ⟨p42, xs43, hv, hs44, hr45⟩ := Rep.sq w r41
      cases hv
      obtain ⟨x46, hx47, P⟩ := P.ix
      obtain ⟨u48, hu, r49⟩ := RepL.atE hr45 hx47
      refine h_ixL hs44 hu ?_
      cases r49
      refine h_nil ?_
      refine h_newL w (ds := (([x31.1, (x31.1 % 3), x46] : List Int)).map enc) (K := K) (.cons (Rep.int _) (.cons (Rep.int _) (.cons (Rep.int _) .nil))) (fun p50 B51 H52 s53 r54 => ?_) (by show 3 ≤ sizeLine; decide)
      replace m_state := m_state.step s53 nm0
      replace m10 := m10.step s53 nm0
      replace st := st.go s53 go0
      replace sj15 := sj15.go s53 go0
      replace w := s53.ok
      replace r54 : Rep K B51 (.ref p50) (enc ([x31.1, (x31.1 % 3), x46] : List Int)) := r54
      refine h_var rfl ?_
      obtain ⟨p55, xs56, hv, hs57, hr58⟩ := Rep.sq w r54
      cases hv
      obtain ⟨x59, hx60, P⟩ := P.ix
      obtain ⟨u61, hu, r62⟩ := RepL.atE hr58 hx60
      refine h_ixL hs57 hu ?_
      cases r62
      refine h_nil ?_
      obtain ⟨gd, P⟩ := P.guard
      refine h_append (b := x59) w m10 (Rep.int _) gd (fun H63 s64 m10 => ?_)
      replace m_state := m_state.step s64 (nm1 ne13)
      replace st := st.go s64 (go1 (.inr n12))
      replace sj15 := sj15.go s64 (go1 (.inl (by simp)))
      replace w := s64.ok
      refine h_nx ?_
      exact kk19 (x31.2, (a22.2 ++ [x59])) _ _ ⟨_, _, _, sj15, rfl, m_state, m10⟩ P.ok
    · rintro a65 _ H67 ⟨B66, o69, o70, s68, rfl, m_state, m10⟩ P
      replace st := st.go s68 (go2 (.inl (by simp)) (.inr n12))
      replace w := s68.ok
      refine h_nx ?_
      refine h_ret ?_
      refine h_var rfl ?_
      obtain ⟨B75, e71, k72, g73, r74⟩ := Mu.keep m10
      replace st := g73 _ _ _ st w0 n12
      replace m_state := m_state.kp e71 k72 ne13
      replace w := st.ok
      replace r74 : Rep K B75 (.ref p7) (enc a65.2) := r74
      exact P.ok _ _ _ st m_state r74
theorem ok__law_sum {f : Addr} {fd : FuncData}  (F : Fun K "_law_sum" "_law_sum" s__law_sum f fd)  : FnOk Pr wo K mg base CX0 1 f fd ["_law_row", "_law_number"] (sp__law_sum K) := by
  refine F.ok sc__law_sum (fun vs H Q E h => ?_) (fun cdv A outer s H0 vs Q E hr h => ?_)
  · obtain ⟨_, _, _, _, _, rfl, _⟩ := h; rfl
  · obtain ⟨B0, v_row, a_row, a_number, w, rfl, r_row, P⟩ := h
    have w0 := w
    have hu := hu_of hr
    have hu64 := hu64_of hr
    have hu65 := hu65_of hr
    refine ⟨_, (pss_cons (ps_for PassesOwn.never rfl (pi_list (pv 0)) (pg_name (i := 2) sc__law_sum.nd rfl (by first | exact Or.inl rfl | exact Or.inr rfl)) (pss_one (ps_set (i := 1) sc__law_sum.nd rfl (by first | exact Or.inl rfl | exact Or.inr rfl) (pe_op op_mod (pe_op op_add (pe_op op_mul (pv 1) pe_int) (pv 2)) pe_int))))
      (pss_one (ps_ret (pv 1)))), ?_⟩
    unfold l_sum at P
    have st := Stp.refl (W := []) w
    refine h_seq ?_
    refine h_forE ?_
    refine h_var rfl ?_
    obtain ⟨p1, xs2, rfl, hb3, hr4⟩ := Rep.sqB (r_row.mono st.ex)
    have wj6 := w
    have sj5 := Stp.refl (W := []) w
    refine h_forL P (w.l hb3) hr4 (fun (a : Int) σ' H' => ∃ (B' : Hp) (o__law_byte : Option V), Stp [] B0 H0 B' H' ∧ σ' = [some ((.ref p1)), some (.int a), o__law_byte]) ⟨_, _, sj5, rfl⟩ (fun _ _ _ j => ?_) ?_ ?_
    · obtain ⟨B16, o19, s18, rfl⟩ := j
      exact s18.ok.l (s18.ex.l hb3)
    · rintro N7 T8 x13 v14 a12 _ H17 ⟨B16, o19, s18, rfl⟩ r15 kk9 kr10 kb11 P
      replace st := st.go s18 go0
      replace w := s18.ok
      have sj5 := s18
      replace r15 := r15.mono sj5.ex
      cases r15
      refine h_gname ?_
      refine h_set1 ?_
      refine h_op ?_
      refine h_op ?_
      refine h_op ?_
      refine h_var rfl ?_
      refine h_c ?_
      refine h_I (.inr ⟨by decide +kernel, by decide +kernel⟩) ?_
      refine h_var rfl ?_
      refine h_I0 ?_
      refine h_c ?_
      refine h_I (by decide +kernel) ?_
      replace P := P.lt
      generalize hx : (((a12 * 257) + x13) % 65521) = x20 at P ⊢
      refine h_nx ?_
      exact kk9 x20 _ _ ⟨_, _, sj5, rfl⟩ P.ok
    · rintro a21 _ H23 ⟨B22, o25, s24, rfl⟩ P
      replace st := st.go s24 go0
      replace w := s24.ok
      refine h_nx ?_
      refine h_ret ?_
      refine h_var rfl ?_
      exact P.ok _ _ _ st (Rep.int _)
theorem ok__law_stuffed {f : Addr} {fd : FuncData}  (F : Fun K "_law_stuffed" "_law_stuffed" s__law_stuffed f fd) (bI_int : mg "int" = none) : FnOk Pr wo K mg base CX0 1 f fd ["_law_row"] (sp__law_stuffed K) := by
  refine F.ok sc__law_stuffed (fun vs H Q E h => ?_) (fun cdv A outer s H0 vs Q E hr h => ?_)
  · obtain ⟨_, _, _, _, rfl, _⟩ := h; rfl
  · obtain ⟨B0, v_row, a_row, w, rfl, r_row, P⟩ := h
    have w0 := w
    have hu := hu_of hr
    have hu64 := hu64_of hr
    have hu65 := hu65_of hr
    refine ⟨_, (pss_cons (ps_set (i := 1) sc__law_stuffed.nd rfl (by first | exact Or.inl rfl | exact Or.inr rfl) (pe_lst pa_nil))
      (pss_cons (ps_set (i := 2) sc__law_stuffed.nd rfl (by first | exact Or.inl rfl | exact Or.inr rfl) pe_int)
      (pss_cons (ps_for PassesOwn.never rfl (pi_list (pv 0)) (pg_name (i := 3) sc__law_stuffed.nd rfl (by first | exact Or.inl rfl | exact Or.inr rfl)) (pss_cons (ps_expr (pe_bm PySem.F.plainAttrs_list PySem.F.slot_list_append PySem.F.type_list_append mt_append (pv 1) (pa_cons (pv 3) pa_nil)))
      (pss_cons (ps_set (i := 2) sc__law_stuffed.nd rfl (by first | exact Or.inl rfl | exact Or.inr rfl) (pe_op op_mulW (pe_op op_add (pv 2) pe_int) (pe_callTy cr_int (by rfl) bI_int Y.boot_int (pa_cons (pe_cmpR op_eq (pv 3) pe_int (nomark _)) pa_nil))))
      (pss_one (ps_if (pt_cmpR op_eq (pv 2) pe_int (nomark _)) (pss_cons (ps_expr (pe_bm PySem.F.plainAttrs_list PySem.F.slot_list_append PySem.F.type_list_append mt_append (pv 1) (pa_cons pe_int pa_nil)))
      (pss_one (ps_set (i := 2) sc__law_stuffed.nd rfl (by first | exact Or.inl rfl | exact Or.inr rfl) pe_int))) pss_nil)))))
      (pss_one (ps_ret (pv 1)))))), ?_⟩
    unfold l_stuffed at P
    have st := Stp.refl (W := []) w
    refine h_set ?_
    refine h_lst ?_
    refine h_nil ?_
    refine h_newM w (ds := (([] : List Int)).map enc) (K := K) .nil (fun p1 H2 hn5 s3 m4 => ?_) (by show 0 ≤ sizeLine; decide)
    have n6 := st.nn hn5
    replace st := st.go s3 go0
    replace w := s3.ok
    refine h_set ?_
    refine h_c ?_
    refine h_seq ?_
    refine h_forE ?_
    refine h_var rfl ?_
    obtain ⟨p7, xs8, rfl, hb9, hr10⟩ := Rep.sqB (r_row.mono st.ex)
    have wj12 := w
    have sj11 := Stp.refl (W := [p1]) w
    refine h_forL P (w.l hb9) hr10 (fun (a : Int × (List Int)) σ' H' => ∃ (B' : Hp) (o__law_byte : Option V), Stp [p1] B0 H2 B' H' ∧ σ' = [some ((.ref p7)), some ((.ref p1)), some (.int a.1), o__law_byte] ∧ Mu K B' H' p1 (a.2.map enc)) ⟨_, _, sj11, rfl, m4⟩ (fun _ _ _ j => ?_) ?_ ?_
    · obtain ⟨B22, o25, s24, rfl, m4⟩ := j
      exact s24.ok.l (s24.ex.l hb9)
    · rintro N13 T14 x19 v20 a18 _ H23 ⟨B22, o25, s24, rfl, m4⟩ r21 kk15 kr16 kb17 P
      replace st := st.go s24 (go1 (.inr n6))
      replace w := s24.ok
      have sj11 := s24
      replace r21 := r21.mono sj11.ex
      cases r21
      refine h_gname ?_
      refine h_seq ?_
      refine h_drop ?_
      refine h_bm ?_
      refine h_var rfl ?_
      refine h_bmL m4 ?_
      refine h_cons ?_
      refine h_var rfl ?_
      refine h_nil ?_
      obtain ⟨gd, P⟩ := P.guard
      refine h_append (b := x19) w m4 (Rep.int _) gd (fun H26 s27 m4 => ?_)
      replace st := st.go s27 (go1 (.inr n6))
      replace sj11 := sj11.go s27 (go1 (.inl (by simp)))
      replace w := s27.ok
      refine h_nx ?_
      refine h_set ?_
      refine h_op ?_
      refine h_op ?_
      refine h_var rfl ?_
      refine h_c ?_
      refine h_I0 ?_
      refine h_cb ?_
      refine h_cons ?_
      refine h_op ?_
      refine h_var rfl ?_
      refine h_c ?_
      refine h_eqI ?_
      refine h_nil ?_
      refine h_intB ?_
      obtain ⟨gd, P⟩ := P.guard
      refine h_I gd ?_
      replace P := P.lt
      generalize hx : ((a18.1 + 1) * (b2z (decide (x19 = 0)))) = x28 at P ⊢
      refine h_if ?_
      refine h_test ?_
      refine h_op ?_
      refine h_var rfl ?_
      refine h_c ?_
      refine h_eqI ?_
      refine h_bl ?_
      refine h_ite (fun c1 => ?_) (fun c1 => ?_)
      · replace P := P.iteT c1
        refine h_seq ?_
        refine h_drop ?_
        refine h_bm ?_
        refine h_var rfl ?_
        refine h_bmL m4 ?_
        refine h_cons ?_
        refine h_c ?_
        refine h_nil ?_
        obtain ⟨gd, P⟩ := P.guard
        refine h_append (b := 2) w m4 (Rep.int _) gd (fun H29 s30 m4 => ?_)
        replace st := st.go s30 (go1 (.inr n6))
        replace sj11 := sj11.go s30 (go1 (.inl (by simp)))
        replace w := s30.ok
        refine h_nx ?_
        refine h_set1 ?_
        refine h_c ?_
        refine h_nx ?_
        exact kk15 (0, ((a18.2 ++ [x19]) ++ [2])) _ _ ⟨_, _, sj11, rfl, m4⟩ P.ok
      · replace P := P.iteF c1
        refine h_next ?_
        refine h_nx ?_
        exact kk15 (x28, (a18.2 ++ [x19])) _ _ ⟨_, _, sj11, rfl, m4⟩ P.ok
    · rintro a31 _ H33 ⟨B32, o35, s34, rfl, m4⟩ P
      replace st := st.go s34 (go1 (.inr n6))
      replace w := s34.ok
      refine h_nx ?_
      refine h_ret ?_
      refine h_var rfl ?_
      obtain ⟨B40, e36, k37, g38, r39⟩ := Mu.keep m4
      replace st := g38 _ _ _ st w0 n6
      replace w := st.ok
      replace r39 : Rep K B40 (.ref p1) (enc a31.2) := r39
      exact P.ok _ _ _ st r39
theorem ok__law_boxed {f : Addr} {fd : FuncData}  (F : Fun K "_law_boxed" "_law_boxed" s__law_boxed f fd) {f__law_figures : Addr} {d__law_figures : FuncData} (g__law_figures : mg "_law_figures" = some (.ref f__law_figures)) (k__law_figures : PySem.W.keepIn K (.ref f__law_figures) = true) (b__law_figures : L2.Binds K d__law_figures ["_law_number"] []) (G__law_figures : FnOk Pr wo K mg base CX0 1 f__law_figures d__law_figures ["_law_number"] (sp__law_figures K)) {f__law_stuffed : Addr} {d__law_stuffed : FuncData} (g__law_stuffed : mg "_law_stuffed" = some (.ref f__law_stuffed)) (k__law_stuffed : PySem.W.keepIn K (.ref f__law_stuffed) = true) (b__law_stuffed : L2.Binds K d__law_stuffed ["_law_row"] []) (G__law_stuffed : FnOk Pr wo K mg base CX0 1 f__law_stuffed d__law_stuffed ["_law_row"] (sp__law_stuffed K)) {f__law_sum : Addr} {d__law_sum : FuncData} (g__law_sum : mg "_law_sum" = some (.ref f__law_sum)) (k__law_sum : PySem.W.keepIn K (.ref f__law_sum) = true) (b__law_sum : L2.Binds K d__law_sum ["_law_row", "_law_number"] []) (G__law_sum : FnOk Pr wo K mg base CX0 1 f__law_sum d__law_sum ["_law_row", "_law_number"] (sp__law_sum K)) (bI_list : mg "list" = none) (bI_divmod : mg "divmod" = none) (bI_len : mg "len" = none) : FnOk Pr wo K mg base CX0 2 f fd ["_law_kind", "_law_body"] (sp__law_boxed K) := by
  refine F.ok sc__law_boxed (fun vs H Q E h => ?_) (fun cdv A outer s H0 vs Q E hr h => ?_)
  · obtain ⟨_, _, _, _, _, rfl, _⟩ := h; rfl
  · obtain ⟨B0, a_kind, v_body, a_body, w, rfl, r_body, P⟩ := h
    have w0 := w
    have hu := hu_of hr
    have hu64 := hu64_of hr
    have hu65 := hu65_of hr
    have hr1 : Room 1 _ := hr.mono (by decide)
    refine ⟨_, (pss_cons (ps_set (i := 2) sc__law_boxed.nd rfl (by first | exact Or.inl rfl | exact Or.inr rfl) (pe_op (r := rCatQ K) op_catQ (pe_op (r := rCatQ K) op_catQ (pe_call G__law_figures hr1 rfl g__law_figures k__law_figures b__law_figures .nil pass0 (pa_cons (pe_callB (r := rLenY K) cr_len (by rfl) bI_len PySem.boot_len (pa_cons (pv 1) pa_nil)) pa_nil)) (pv 1)) (pe_callTy (r := rListY K) cr_list (by rfl) bI_list Y.boot_list (pa_cons (pe_callB (r := rDivmod) cr_divmod (by rfl) bI_divmod PyProof.Rows.boot_divmod (pa_cons (pe_call G__law_sum hr1 rfl g__law_sum k__law_sum b__law_sum .nil pass0 (pa_cons (pe_op (r := rCatQ K) op_catQ (pe_lst (pa_cons (pv 0) pa_nil)) (pv 1)) (pa_cons pe_int pa_nil))) (pa_cons pe_int pa_nil))) pa_nil))))
      (pss_one (ps_ret (pe_op (r := rCatQ K) op_catQ (pe_op (r := rCatQ K) op_catQ (pe_lst (pa_cons pe_int (pa_cons pe_int (pa_cons pe_int (pa_cons (pv 0) pa_nil))))) (pe_call G__law_stuffed hr1 rfl g__law_stuffed k__law_stuffed b__law_stuffed .nil pass0 (pa_cons (pv 2) pa_nil))) (pe_lst (pa_cons pe_int pa_nil)))))), ?_⟩
    unfold l_boxed at P
    have st := Stp.refl (W := []) w
    refine h_set ?_
    refine h_op ?_
    refine h_op ?_
    refine h_call ?_
    refine h_cons ?_
    refine h_cb ?_
    refine h_cons ?_
    refine h_var rfl ?_
    refine h_nil ?_
    obtain ⟨p1, xs2, rfl, hs3, hr4⟩ := Rep.sq w (r_body.mono st.ex)
    refine h_len hs3 hr4 ?_
    refine h_nil ?_
    refine ⟨B0, (a_body.length : Int), w, rfl, (P.bind).mono (fun x5 P => ?_) (fun _ z => z)⟩
    refine fun v9 B6 H7 s8 r10 => ?_
    replace st := st.go s8 go0
    replace w := s8.ok
    refine h_var rfl ?_
    obtain ⟨p11, xs12, rfl, hs13, hr14⟩ := Rep.sq w r10
    obtain ⟨p15, xs16, hv, hs17, hr18⟩ := Rep.sq w (r_body.mono st.ex)
    cases hv
    obtain ⟨gd, P⟩ := P.guard
    refine h_cat hs13 hs17 (by have g := gd; simp only [hr14.length, hr18.length, List.length_map] at g ⊢; exact Nat.le_trans g (by decide)) ?_
    refine h_nwL w (ds := ((x5 ++ a_body)).map enc) (K := K) (RepL.cat hr14 hr18) (fun p19 B20 H21 s22 r23 => ?_) 
    replace st := st.go s22 go0
    replace w := s22.ok
    replace r23 : Rep K B20 (.ref p19) (enc (x5 ++ a_body)) := r23
    refine h_cb ?_
    refine h_cons ?_
    refine h_cb ?_
    refine h_cons ?_
    refine h_call ?_
    refine h_cons ?_
    refine h_op ?_
    refine h_lst ?_
    refine h_cons ?_
    refine h_var rfl ?_
    refine h_nil ?_
    refine h_newL w (ds := (([a_kind] : List Int)).map enc) (K := K) (.cons (Rep.int _) .nil) (fun p24 B25 H26 s27 r28 => ?_) (by show 1 ≤ sizeLine; decide)
    replace r23 := r23.mono s27.ex
    replace st := st.go s27 go0
    replace w := s27.ok
    replace r28 : Rep K B25 (.ref p24) (enc ([a_kind] : List Int)) := r28
    refine h_var rfl ?_
    obtain ⟨p29, xs30, hv, hs31, hr32⟩ := Rep.sq w r28
    cases hv
    obtain ⟨p33, xs34, hv, hs35, hr36⟩ := Rep.sq w (r_body.mono st.ex)
    cases hv
    obtain ⟨gd, P⟩ := P.guard
    refine h_cat hs31 hs35 (by have g := gd; simp only [hr32.length, hr36.length, List.length_map] at g ⊢; exact Nat.le_trans g (by decide)) ?_
    refine h_nwL w (ds := ((([a_kind] : List Int) ++ a_body)).map enc) (K := K) (RepL.cat hr32 hr36) (fun p37 B38 H39 s40 r41 => ?_) 
    replace r23 := r23.mono s40.ex
    replace st := st.go s40 go0
    replace w := s40.ok
    replace r41 : Rep K B38 (.ref p37) (enc (([a_kind] : List Int) ++ a_body)) := r41
    refine h_cons ?_
    refine h_c ?_
    refine h_nil ?_
    refine ⟨B38, (.ref p37), (([a_kind] : List Int) ++ a_body), 1, w, rfl, r41, (P.bind).mono (fun x42 P => ?_) (fun _ z => z)⟩
    refine fun v46 B43 H44 s45 r47 => ?_
    replace r23 := r23.mono s45.ex
    replace r41 := r41.mono s45.ex
    replace st := st.go s45 go0
    replace w := s45.ok
    cases r47
    refine h_cons ?_
    refine h_c ?_
    refine h_nil ?_
    refine h_divmod (K := K) w (by unfold CDiv; decide) (fun p48 B49 H50 s51 r52 => ?_)
    replace r23 := r23.mono s51.ex
    replace st := st.go s51 go0
    replace w := s51.ok
    replace r52 : Rep K B49 (.ref p48) (enc (⟨x42 / 256, x42 % 256⟩ : (Tp2 Int Int))) := r52
    refine h_nil ?_
    obtain ⟨p53, xs54, hv, hs55, hr56⟩ := Rep.st w r52
    cases hv
    refine h_listT hs55 ?_
    refine h_nwL w (ds := (([(⟨x42 / 256, x42 % 256⟩ : (Tp2 Int Int)).a, (⟨x42 / 256, x42 % 256⟩ : (Tp2 Int Int)).b] : List Int)).map enc) (K := K) hr56 (fun p57 B58 H59 s60 r61 => ?_) 
    replace r23 := r23.mono s60.ex
    replace st := st.go s60 go0
    replace w := s60.ok
    replace r61 : Rep K B58 (.ref p57) (enc ([(⟨x42 / 256, x42 % 256⟩ : (Tp2 Int Int)).a, (⟨x42 / 256, x42 % 256⟩ : (Tp2 Int Int)).b] : List Int)) := r61
    obtain ⟨p62, xs63, hv, hs64, hr65⟩ := Rep.sq w r23
    cases hv
    obtain ⟨p66, xs67, hv, hs68, hr69⟩ := Rep.sq w r61
    cases hv
    obtain ⟨gd, P⟩ := P.guard
    refine h_cat hs64 hs68 (by have g := gd; simp only [hr65.length, hr69.length, List.length_map] at g ⊢; exact Nat.le_trans g (by decide)) ?_
    refine h_nwL w (ds := (((x5 ++ a_body) ++ ([(⟨x42 / 256, x42 % 256⟩ : (Tp2 Int Int)).a, (⟨x42 / 256, x42 % 256⟩ : (Tp2 Int Int)).b] : List Int))).map enc) (K := K) (RepL.cat hr65 hr69) (fun p70 B71 H72 s73 r74 => ?_) 
    replace st := st.go s73 go0
    replace w := s73.ok
    replace r74 : Rep K B71 (.ref p70) (enc ((x5 ++ a_body) ++ ([(⟨x42 / 256, x42 % 256⟩ : (Tp2 Int Int)).a, (⟨x42 / 256, x42 % 256⟩ : (Tp2 Int Int)).b] : List Int))) := r74
    refine h_ret ?_
    refine h_op ?_
    refine h_op ?_
    refine h_lst ?_
    refine h_cons ?_
    refine h_c ?_
    refine h_cons ?_
    refine h_c ?_
    refine h_cons ?_
    refine h_c ?_
    refine h_cons ?_
    refine h_var rfl ?_
    refine h_nil ?_
    refine h_newL w (ds := (([0, 0, 1, a_kind] : List Int)).map enc) (K := K) (.cons (Rep.int _) (.cons (Rep.int _) (.cons (Rep.int _) (.cons (Rep.int _) .nil)))) (fun p75 B76 H77 s78 r79 => ?_) (by show 4 ≤ sizeLine; decide)
    replace r74 := r74.mono s78.ex
    replace st := st.go s78 go0
    replace w := s78.ok
    replace r79 : Rep K B76 (.ref p75) (enc ([0, 0, 1, a_kind] : List Int)) := r79
    refine h_call ?_
    refine h_cons ?_
    refine h_var rfl ?_
    refine h_nil ?_
    refine ⟨B76, (.ref p70), ((x5 ++ a_body) ++ ([(⟨x42 / 256, x42 % 256⟩ : (Tp2 Int Int)).a, (⟨x42 / 256, x42 % 256⟩ : (Tp2 Int Int)).b] : List Int)), w, rfl, r74, (P.bind).mono (fun x80 P => ?_) (fun _ z => z)⟩
    refine fun v84 B81 H82 s83 r85 => ?_
    replace r74 := r74.mono s83.ex
    replace r79 := r79.mono s83.ex
    replace st := st.go s83 go0
    replace w := s83.ok
    obtain ⟨p86, xs87, hv, hs88, hr89⟩ := Rep.sq w r79
    cases hv
    obtain ⟨p90, xs91, rfl, hs92, hr93⟩ := Rep.sq w r85
    obtain ⟨gd, P⟩ := P.guard
    refine h_cat hs88 hs92 (by have g := gd; simp only [hr89.length, hr93.length, List.length_map] at g ⊢; exact Nat.le_trans g (by decide)) ?_
    refine h_nwL w (ds := ((([0, 0, 1, a_kind] : List Int) ++ x80)).map enc) (K := K) (RepL.cat hr89 hr93) (fun p94 B95 H96 s97 r98 => ?_) 
    replace r74 := r74.mono s97.ex
    replace st := st.go s97 go0
    replace w := s97.ok
    replace r98 : Rep K B95 (.ref p94) (enc (([0, 0, 1, a_kind] : List Int) ++ x80)) := r98
    refine h_lst ?_
    refine h_cons ?_
    refine h_c ?_
    refine h_nil ?_
    refine h_newL w (ds := (([255] : List Int)).map enc) (K := K) (.cons (Rep.int _) .nil) (fun p99 B100 H101 s102 r103 => ?_) (by show 1 ≤ sizeLine; decide)
    replace r74 := r74.mono s102.ex
    replace r98 := r98.mono s102.ex
    replace st := st.go s102 go0
    replace w := s102.ok
    replace r103 : Rep K B100 (.ref p99) (enc ([255] : List Int)) := r103
    obtain ⟨p104, xs105, hv, hs106, hr107⟩ := Rep.sq w r98
    cases hv
    obtain ⟨p108, xs109, hv, hs110, hr111⟩ := Rep.sq w r103
    cases hv
    obtain ⟨gd, P⟩ := P.guard
    refine h_cat hs106 hs110 (by have g := gd; simp only [hr107.length, hr111.length, List.length_map] at g ⊢; exact Nat.le_trans g (by decide)) ?_
    refine h_nwL w (ds := (((([0, 0, 1, a_kind] : List Int) ++ x80) ++ ([255] : List Int))).map enc) (K := K) (RepL.cat hr107 hr111) (fun p112 B113 H114 s115 r116 => ?_) 
    replace r74 := r74.mono s115.ex
    replace st := st.go s115 go0
    replace w := s115.ok
    replace r116 : Rep K B113 (.ref p112) (enc ((([0, 0, 1, a_kind] : List Int) ++ x80) ++ ([255] : List Int))) := r116
    exact P.ok _ _ _ st r116
theorem ok__law_contents {f : Addr} {fd : FuncData}  (F : Fun K "_law_contents" "_law_contents" s__law_contents f fd) (bI_len : mg "len" = none) (bI_int : mg "int" = none) : FnOk Pr wo K mg base CX0 1 f fd ["_law_row", "_law_at"] (sp__law_contents K) := by
  refine F.ok sc__law_contents (fun vs H Q E h => ?_) (fun cdv A outer s H0 vs Q E hr h => ?_)
  · obtain ⟨_, _, _, _, _, rfl, _⟩ := h; rfl
  · obtain ⟨B0, v_row, a_row, a_at, w, rfl, r_row, P⟩ := h
    have w0 := w
    have hu := hu_of hr
    have hu64 := hu64_of hr
    have hu65 := hu65_of hr
    refine ⟨_, (pss_cons (ps_set (i := 2) sc__law_contents.nd rfl (by first | exact Or.inl rfl | exact Or.inr rfl) (pe_lst pa_nil))
      (pss_cons (ps_set (i := 3) sc__law_contents.nd rfl (by first | exact Or.inl rfl | exact Or.inr rfl) (pe_lst pa_nil))
      (pss_cons (ps_set (i := 4) sc__law_contents.nd rfl (by first | exact Or.inl rfl | exact Or.inr rfl) pe_int)
      (pss_cons (ps_while PassesOwn.never (pt_cmpR op_lt (pv 1) (pe_callB (r := rLenY K) cr_len (by rfl) bI_len PySem.boot_len (pa_cons (pv 0) pa_nil)) (nomark _)) (pss_cons (ps_if (pt_cmpR op_lt (pv 4) pe_int (nomark _)) (pss_cons (ps_expr (pe_bm PySem.F.plainAttrs_list PySem.F.slot_list_append PySem.F.type_list_append mt_append (pv 2) (pa_cons (pe_ix (r := rIxL K) ix_list (pv 0) (pv 1) (fun _ _ => rfl)) pa_nil)))
      (pss_cons (ps_expr (pe_bm PySem.F.plainAttrs_list PySem.F.slot_list_append PySem.F.type_list_append mt_append (pv 3) (pa_cons (pe_op op_add (pv 1) pe_int) pa_nil)))
      (pss_one (ps_set (i := 4) sc__law_contents.nd rfl (by first | exact Or.inl rfl | exact Or.inr rfl) (pe_op op_mulW (pe_op op_add (pv 4) pe_int) (pe_callTy cr_int (by rfl) bI_int Y.boot_int (pa_cons (pe_cmpR op_eq (pe_ix (r := rIxL K) ix_list (pv 0) (pv 1) (fun _ _ => rfl)) pe_int (nomark _)) pa_nil))))))) (pss_one (ps_if (pt_cmpR op_eq (pe_ix (r := rIxL K) ix_list (pv 0) (pv 1) (fun _ _ => rfl)) pe_int (nomark _)) (pss_cons (ps_asg (pe_op op_add (pv 1) pe_int) (pg_sub (pv 3) (pe_un un_neg pe_int) set_list))
      (pss_one (ps_set (i := 4) sc__law_contents.nd rfl (by first | exact Or.inl rfl | exact Or.inr rfl) pe_int))) (pss_one (ps_ret (pe_tup (pa_cons (pe_slice (r := rSlQ K) sl_Q (pv 2) po_none (po_some (pe_un un_neg pe_int))) (pa_cons (pe_slice (r := rSlQ K) sl_Q (pv 3) po_none (po_some (pe_un un_neg pe_int))) pa_nil))))))))
      (pss_one (ps_set (i := 1) sc__law_contents.nd rfl (by first | exact Or.inl rfl | exact Or.inr rfl) (pe_op op_add (pv 1) pe_int)))))
      (pss_cons (ps_if (pt_cmpR op_eq (pv 4) pe_int (nomark _)) (pss_one (ps_ret (pe_tup (pa_cons (pe_slice (r := rSlQ K) sl_Q (pv 2) po_none (po_some (pe_un un_neg pe_int))) (pa_cons (pe_slice (r := rSlQ K) sl_Q (pv 3) po_none (po_some (pe_un un_neg pe_int))) pa_nil))))) pss_nil)
      (pss_one (ps_ret (pe_tup (pa_cons (pv 2) (pa_cons (pv 3) pa_nil)))))))))), ?_⟩
    unfold l_contents at P
    have st := Stp.refl (W := []) w
    refine h_set ?_
    refine h_lst ?_
    refine h_nil ?_
    refine h_newM w (ds := (([] : List Int)).map enc) (K := K) .nil (fun p1 H2 hn5 s3 m4 => ?_) (by show 0 ≤ sizeLine; decide)
    have n6 := st.nn hn5
    replace st := st.go s3 go0
    replace w := s3.ok
    refine h_set ?_
    refine h_lst ?_
    refine h_nil ?_
    refine h_newM w (ds := (([] : List Int)).map enc) (K := K) .nil (fun p7 H8 hn11 s9 m10 => ?_) (by show 0 ≤ sizeLine; decide)
    have n12 := st.nn hn11
    have ne13 := Mu.ne m4 hn11
    replace m4 := m4.step s9 nm0
    replace st := st.go s9 go0
    replace w := s9.ok
    refine h_set ?_
    refine h_c ?_
    refine h_seq ?_
    have wj15 := w
    have sj14 := Stp.refl (W := [p1, p7]) w
    refine h_while P (fun (a : Int × Int × (List Int) × (List Int)) σ' H' => ∃ (B' : Hp), Stp [p1, p7] B0 H8 B' H' ∧ σ' = [some (v_row), some (.int a.2.1), some ((.ref p1)), some ((.ref p7)), some (.int a.1)] ∧ Mu K B' H' p1 (a.2.2.1.map enc) ∧ Mu K B' H' p7 (a.2.2.2.map enc)) ⟨_, sj14, rfl, m4, m10⟩ ?_ ?_
    · rintro N16 C17 T18 a23 _ H25 ⟨B24, s26, rfl, m4, m10⟩ kn19 kk20 kr21 kb22 P
      replace st := st.go s26 (go2 (.inr n6) (.inr n12))
      replace w := s26.ok
      have sj14 := s26
      refine h_test ?_
      refine h_op ?_
      refine h_var rfl ?_
      refine h_cb ?_
      refine h_cons ?_
      refine h_var rfl ?_
      refine h_nil ?_
      obtain ⟨p27, xs28, rfl, hs29, hr30⟩ := Rep.sq w (r_row.mono st.ex)
      refine h_len hs29 hr30 ?_
      refine h_I0 ?_
      refine h_bl ?_
      refine h_ite (fun c1 => ?_) (fun c1 => ?_)
      · replace P := P.iteT c1
        refine ⟨N16, kn19, ?_⟩
        have wj32 := w
        have sj31 := Stp.refl (W := [p1, p7]) w
        refine h_joinF P (fun (a : Int × (List Int) × (List Int)) σ' H' => ∃ (B' : Hp), Stp [p1, p7] B24 H25 B' H' ∧ σ' = [some ((.ref p27)), some (.int a23.2.1), some ((.ref p1)), some ((.ref p7)), some (.int a.1)] ∧ Mu K B' H' p1 (a.2.1.map enc) ∧ Mu K B' H' p7 (a.2.2.map enc)) (fun N Tkr34 kk33 kr34 P => h_if ?_) ?_
        · skip
          refine h_test ?_
          refine h_op ?_
          refine h_var rfl ?_
          refine h_c ?_
          refine h_I0 ?_
          refine h_bl ?_
          refine h_ite (fun c1 => ?_) (fun c1 => ?_)
          · replace P := P.iteT c1
            refine h_seq ?_
            refine h_drop ?_
            refine h_bm ?_
            refine h_var rfl ?_
            refine h_bmL m4 ?_
            refine h_cons ?_
            refine h_op ?_
            refine h_var rfl ?_
            refine h_var rfl ?_
            obtain ⟨p35, xs36, hv, hs37, hr38⟩ := Rep.sq w (r_row.mono st.ex)
            cases hv
            obtain ⟨x39, hx40, P⟩ := P.ix
            obtain ⟨u41, hu, r42⟩ := RepL.atE hr38 hx40
            refine h_ixL hs37 hu ?_
            cases r42
            refine h_nil ?_
            obtain ⟨gd, P⟩ := P.guard
            refine h_append (b := x39) w m4 (Rep.int _) gd (fun H43 s44 m4 => ?_)
            replace m10 := m10.step s44 (nm1 ne13.symm)
            replace st := st.go s44 (go1 (.inr n6))
            replace sj14 := sj14.go s44 (go1 (.inl (by simp)))
            replace sj31 := sj31.go s44 (go1 (.inl (by simp)))
            replace w := s44.ok
            refine h_nx ?_
            refine h_seq ?_
            refine h_drop ?_
            refine h_bm ?_
            refine h_var rfl ?_
            refine h_bmL m10 ?_
            refine h_cons ?_
            refine h_op ?_
            refine h_var rfl ?_
            refine h_c ?_
            refine h_I0 ?_
            refine h_nil ?_
            obtain ⟨gd, P⟩ := P.guard
            refine h_append (b := (a23.2.1 + 1)) w m10 (Rep.int _) gd (fun H45 s46 m10 => ?_)
            replace m4 := m4.step s46 (nm1 ne13)
            replace st := st.go s46 (go1 (.inr n12))
            replace sj14 := sj14.go s46 (go1 (.inl (by simp)))
            replace sj31 := sj31.go s46 (go1 (.inl (by simp)))
            replace w := s46.ok
            refine h_nx ?_
            refine h_set1 ?_
            refine h_op ?_
            refine h_op ?_
            refine h_var rfl ?_
            refine h_c ?_
            refine h_I0 ?_
            refine h_cb ?_
            refine h_cons ?_
            refine h_op ?_
            refine h_op ?_
            refine h_var rfl ?_
            refine h_var rfl ?_
            obtain ⟨p47, xs48, hv, hs49, hr50⟩ := Rep.sq w (r_row.mono st.ex)
            cases hv
            obtain ⟨x51, hx52, P⟩ := P.ix
            obtain ⟨u53, hu, r54⟩ := RepL.atE hr50 hx52
            refine h_ixL hs49 hu ?_
            cases r54
            refine h_c ?_
            refine h_eqI ?_
            refine h_nil ?_
            refine h_intB ?_
            obtain ⟨gd, P⟩ := P.guard
            refine h_I gd ?_
            replace P := P.lt
            generalize hx : ((a23.1 + 1) * (b2z (decide (x51 = 0)))) = x55 at P ⊢
            refine h_nx ?_
            exact kk33 (x55, (a23.2.2.1 ++ [x39]), (a23.2.2.2 ++ [(a23.2.1 + 1)])) _ _ ⟨_, sj31, rfl, m4, m10⟩ P.ok
          · replace P := P.iteF c1
            refine h_if ?_
            refine h_test ?_
            refine h_op ?_
            refine h_op ?_
            refine h_var rfl ?_
            refine h_var rfl ?_
            obtain ⟨p56, xs57, hv, hs58, hr59⟩ := Rep.sq w (r_row.mono st.ex)
            cases hv
            obtain ⟨x60, hx61, P⟩ := P.ix
            obtain ⟨u62, hu, r63⟩ := RepL.atE hr59 hx61
            refine h_ixL hs58 hu ?_
            cases r63
            refine h_c ?_
            refine h_eqI ?_
            refine h_bl ?_
            refine h_ite (fun c1 => ?_) (fun c1 => ?_)
            · replace P := P.iteT c1
              refine h_seq ?_
              refine h_asg ?_
              refine h_op ?_
              refine h_var rfl ?_
              refine h_c ?_
              refine h_I0 ?_
              refine h_sub ?_
              refine h_var rfl ?_
              refine h_un ?_
              refine h_c ?_
              refine h_U ?_
              obtain ⟨j65, hj66, P⟩ := P.set
              refine h_setL (b := (a23.2.1 + 1)) w m10 (Rep.int _) hj66 (fun H67 s68 m10 => ?_)
              replace m4 := m4.step s68 (nm1 ne13)
              replace st := st.go s68 (go1 (.inr n12))
              replace sj14 := sj14.go s68 (go1 (.inl (by simp)))
              replace sj31 := sj31.go s68 (go1 (.inl (by simp)))
              replace w := s68.ok
              generalize hl : List.set a23.2.2.2 j65 (a23.2.1 + 1) = x64 at *
              refine h_nx ?_
              refine h_set1 ?_
              refine h_c ?_
              refine h_nx ?_
              exact kk33 (0, a23.2.2.1, x64) _ _ ⟨_, sj31, rfl, m4, m10⟩ P.ok
            · replace P := P.iteF c1
              refine h_ret ?_
              refine h_tup ?_
              refine h_cons ?_
              refine h_sl ?_
              refine h_var rfl ?_
              refine h_nopart ?_
              refine h_part ?_
              refine h_un ?_
              refine h_c ?_
              refine h_U ?_
              refine h_isI ?_
              obtain ⟨xs70, hv, hs71, hr72⟩ := Mu.sq m4
              refine h_slQ hs71 ?_
              refine h_nwL w (ds := ((cutL a23.2.2.1 none (some (-1)))).map enc) (K := K) (hr72.cut none (some (-1))) (fun p73 B74 H75 s76 r77 => ?_) 
              replace m4 := m4.step s76 nm0
              replace m10 := m10.step s76 nm0
              replace st := st.go s76 go0
              replace sj14 := sj14.go s76 go0
              replace sj31 := sj31.go s76 go0
              replace w := s76.ok
              replace r77 : Rep K B74 (.ref p73) (enc (cutL a23.2.2.1 none (some (-1)))) := r77
              refine h_cons ?_
              refine h_sl ?_
              refine h_var rfl ?_
              refine h_nopart ?_
              refine h_part ?_
              refine h_un ?_
              refine h_c ?_
              refine h_U ?_
              refine h_isI ?_
              obtain ⟨xs79, hv, hs80, hr81⟩ := Mu.sq m10
              refine h_slQ hs80 ?_
              refine h_nwL w (ds := ((cutL a23.2.2.2 none (some (-1)))).map enc) (K := K) (hr81.cut none (some (-1))) (fun p82 B83 H84 s85 r86 => ?_) 
              replace m4 := m4.step s85 nm0
              replace m10 := m10.step s85 nm0
              replace r77 := r77.mono s85.ex
              replace st := st.go s85 go0
              replace sj14 := sj14.go s85 go0
              replace sj31 := sj31.go s85 go0
              replace w := s85.ok
              replace r86 : Rep K B83 (.ref p82) (enc (cutL a23.2.2.2 none (some (-1)))) := r86
              refine h_nil ?_
              refine h_newT w (K := K) (.cons r77 (.cons r86 .nil)) (fun p87 B88 H89 s90 r91 => ?_) (by show 2 ≤ sizeLine; decide)
              replace m4 := m4.step s90 nm0
              replace m10 := m10.step s90 nm0
              replace st := st.go s90 go0
              replace sj14 := sj14.go s90 go0
              replace sj31 := sj31.go s90 go0
              replace w := s90.ok
              replace r91 : Rep K B88 (.ref p87) (enc (⟨(cutL a23.2.2.1 none (some (-1))), (cutL a23.2.2.2 none (some (-1)))⟩ : (Tp2 (List Int) (List Int)))) := r91
              exact (kr21 _ (kr34 _ P.ok)) _ _ _ st r91
        rintro a92 _ H94 ⟨B93, s95, rfl, m4, m10⟩ P
        replace st := st.go s95 (go2 (.inr n6) (.inr n12))
        replace sj14 := sj14.go s95 (go2 (.inl (by simp)) (.inl (by simp)))
        replace w := s95.ok
        refine h_set1 ?_
        refine h_op ?_
        refine h_var rfl ?_
        refine h_c ?_
        refine h_I0 ?_
        replace P := P.lt
        generalize hx : (a23.2.1 + 1) = x96 at P ⊢
        refine h_nx ?_
        exact kk20 (a92.1, x96, a92.2.1, a92.2.2) _ _ ⟨_, sj14, rfl, m4, m10⟩ P.ok
      · replace P := P.iteF c1
        exact kb22 (a23.1, a23.2.1, a23.2.2.1, a23.2.2.2) _ _ ⟨_, sj14, rfl, m4, m10⟩ P.ok
    · rintro a97 _ H99 ⟨B98, s100, rfl, m4, m10⟩ P
      replace st := st.go s100 (go2 (.inr n6) (.inr n12))
      replace w := s100.ok
      refine h_nx ?_
      refine h_seq <| h_if ?_
      refine h_test ?_
      refine h_op ?_
      refine h_var rfl ?_
      refine h_c ?_
      refine h_eqI ?_
      refine h_bl ?_
      refine h_ite (fun c1 => ?_) (fun c1 => ?_)
      · replace P := P.iteT c1
        refine h_ret ?_
        refine h_tup ?_
        refine h_cons ?_
        refine h_sl ?_
        refine h_var rfl ?_
        refine h_nopart ?_
        refine h_part ?_
        refine h_un ?_
        refine h_c ?_
        refine h_U ?_
        refine h_isI ?_
        obtain ⟨xs102, hv, hs103, hr104⟩ := Mu.sq m4
        refine h_slQ hs103 ?_
        refine h_nwL w (ds := ((cutL a97.2.2.1 none (some (-1)))).map enc) (K := K) (hr104.cut none (some (-1))) (fun p105 B106 H107 s108 r109 => ?_) 
        replace m4 := m4.step s108 nm0
        replace m10 := m10.step s108 nm0
        replace st := st.go s108 go0
        replace w := s108.ok
        replace r109 : Rep K B106 (.ref p105) (enc (cutL a97.2.2.1 none (some (-1)))) := r109
        refine h_cons ?_
        refine h_sl ?_
        refine h_var rfl ?_
        refine h_nopart ?_
        refine h_part ?_
        refine h_un ?_
        refine h_c ?_
        refine h_U ?_
        refine h_isI ?_
        obtain ⟨xs111, hv, hs112, hr113⟩ := Mu.sq m10
        refine h_slQ hs112 ?_
        refine h_nwL w (ds := ((cutL a97.2.2.2 none (some (-1)))).map enc) (K := K) (hr113.cut none (some (-1))) (fun p114 B115 H116 s117 r118 => ?_) 
        replace m4 := m4.step s117 nm0
        replace m10 := m10.step s117 nm0
        replace r109 := r109.mono s117.ex
        replace st := st.go s117 go0
        replace w := s117.ok
        replace r118 : Rep K B115 (.ref p114) (enc (cutL a97.2.2.2 none (some (-1)))) := r118
        refine h_nil ?_
        refine h_newT w (K := K) (.cons r109 (.cons r118 .nil)) (fun p119 B120 H121 s122 r123 => ?_) (by show 2 ≤ sizeLine; decide)
        replace m4 := m4.step s122 nm0
        replace m10 := m10.step s122 nm0
        replace st := st.go s122 go0
        replace w := s122.ok
        replace r123 : Rep K B120 (.ref p119) (enc (⟨(cutL a97.2.2.1 none (some (-1))), (cutL a97.2.2.2 none (some (-1)))⟩ : (Tp2 (List Int) (List Int)))) := r123
        exact P.ok _ _ _ st r123
      · replace P := P.iteF c1
        refine h_next ?_
        refine h_nx ?_
        refine h_ret ?_
        refine h_tup ?_
        refine h_cons ?_
        refine h_var rfl ?_
        refine h_cons ?_
        refine h_var rfl ?_
        refine h_nil ?_
        obtain ⟨B128, e124, k125, g126, r127⟩ := Mu.keep m4
        replace st := g126 _ _ _ st w0 n6
        replace m10 := m10.kp e124 k125 ne13.symm
        replace w := st.ok
        replace r127 : Rep K B128 (.ref p1) (enc a97.2.2.1) := r127
        obtain ⟨B133, e129, k130, g131, r132⟩ := Mu.keep m10
        replace st := g131 _ _ _ st w0 n12
        replace r127 := r127.mono e129
        replace w := st.ok
        replace r132 : Rep K B133 (.ref p7) (enc a97.2.2.2) := r132
        refine h_newT w (K := K) (.cons r127 (.cons r132 .nil)) (fun p134 B135 H136 s137 r138 => ?_) (by show 2 ≤ sizeLine; decide)
        replace r127 := r127.mono s137.ex
        replace r132 := r132.mono s137.ex
        replace st := st.go s137 go0
        replace w := s137.ok
        replace r138 : Rep K B135 (.ref p134) (enc (⟨a97.2.2.1, a97.2.2.2⟩ : (Tp2 (List Int) (List Int)))) := r138
        exact P.ok _ _ _ st r138
theorem ok__law_box_at {f : Addr} {fd : FuncData}  (F : Fun K "_law_box_at" "_law_box_at" s__law_box_at f fd) {f__law_contents : Addr} {d__law_contents : FuncData} (g__law_contents : mg "_law_contents" = some (.ref f__law_contents)) (k__law_contents : PySem.W.keepIn K (.ref f__law_contents) = true) (b__law_contents : L2.Binds K d__law_contents ["_law_row", "_law_at"] []) (G__law_contents : FnOk Pr wo K mg base CX0 1 f__law_contents d__law_contents ["_law_row", "_law_at"] (sp__law_contents K)) {f__law_number_at : Addr} {d__law_number_at : FuncData} (g__law_number_at : mg "_law_number_at" = some (.ref f__law_number_at)) (k__law_number_at : PySem.W.keepIn K (.ref f__law_number_at) = true) (b__law_number_at : L2.Binds K d__law_number_at ["_law_row", "_law_at"] []) (G__law_number_at : FnOk Pr wo K mg base CX0 1 f__law_number_at d__law_number_at ["_law_row", "_law_at"] (sp__law_number_at K)) {f__law_sum : Addr} {d__law_sum : FuncData} (g__law_sum : mg "_law_sum" = some (.ref f__law_sum)) (k__law_sum : PySem.W.keepIn K (.ref f__law_sum) = true) (b__law_sum : L2.Binds K d__law_sum ["_law_row", "_law_number"] []) (G__law_sum : FnOk Pr wo K mg base CX0 1 f__law_sum d__law_sum ["_law_row", "_law_number"] (sp__law_sum K)) (bI_len : mg "len" = none) (bI_list : mg "list" = none) (bI_divmod : mg "divmod" = none) : FnOk Pr wo K mg base CX0 2 f fd ["_law_row", "_law_at"] (sp__law_box_at K) := by
  refine F.ok sc__law_box_at (fun vs H Q E h => ?_) (fun cdv A outer s H0 vs Q E hr h => ?_)
  · obtain ⟨_, _, _, _, _, rfl, _⟩ := h; rfl
  · obtain ⟨B0, v_row, a_row, a_at, w, rfl, r_row, P⟩ := h
    have w0 := w
    have hu := hu_of hr
    have hu64 := hu64_of hr
    have hu65 := hu65_of hr
    have hr1 : Room 1 _ := hr.mono (by decide)
    refine ⟨_, (pss_cons (ps_if (PW.pt (pw_or (pt_cmpR (r := rNeD K) (op_neD hu64) (pe_slice (r := rSlQ K) sl_Q (pv 0) (po_some (pv 1)) (po_some (pe_op op_add (pv 1) pe_int))) (pe_lst (pa_cons pe_int (pa_cons pe_int (pa_cons pe_int pa_nil)))) (nomark _)) (pw_or (pt_cmpR op_lt (pe_callB (r := rLenY K) cr_len (by rfl) bI_len PySem.boot_len (pa_cons (pv 0) pa_nil)) (pe_op op_add (pv 1) pe_int) (nomark _)) (pw_or1 (pt_not (pt_chain op_le op_le pe_int (pe_ix (r := rIxL K) ix_list (pv 0) (pe_op op_add (pv 1) pe_int) (fun _ _ => rfl)) pe_int)))))) (pss_one (ps_ret pe_non)) pss_nil)
      (pss_cons (ps_asg (pe_call G__law_contents hr1 rfl g__law_contents k__law_contents b__law_contents .nil pass0 (pa_cons (pv 0) (pa_cons (pe_op op_add (pv 1) pe_int) pa_nil))) (pg_tupK (K := K) (n := 2) rfl rfl (pgs_cons (pg_name (i := 2) sc__law_box_at.nd rfl (by first | exact Or.inl rfl | exact Or.inr rfl)) (pgs_cons (pg_name (i := 3) sc__law_box_at.nd rfl (by first | exact Or.inl rfl | exact Or.inr rfl)) pgs_nil))))
      (pss_cons (ps_set (i := 4) sc__law_box_at.nd rfl (by first | exact Or.inl rfl | exact Or.inr rfl) (pe_call G__law_number_at hr1 rfl g__law_number_at k__law_number_at b__law_number_at .nil pass0 (pa_cons (pv 2) (pa_cons pe_int pa_nil))))
      (pss_cons (ps_if (PW.pt (pw_or (pt_cmpR op_isNn (pv 4) pe_non (nomark _)) (pw_or (pt_cmpR op_gt (pe_ix (r := rIxT K) ix_tup (pv 4) pe_int (fun _ _ => rfl)) pe_int (nomark _)) (pw_or1 (pt_cmpR op_gt (pe_op op_add (pe_op op_add (pe_ix (r := rIxT K) ix_tup (pv 4) pe_int (fun _ _ => rfl)) (pe_ix (r := rIxT K) ix_tup (pv 4) pe_int (fun _ _ => rfl))) pe_int) (pe_callB (r := rLenY K) cr_len (by rfl) bI_len PySem.boot_len (pa_cons (pv 2) pa_nil)) (nomark _)))))) (pss_one (ps_ret pe_non)) pss_nil)
      (pss_cons (ps_set (i := 5) sc__law_box_at.nd rfl (by first | exact Or.inl rfl | exact Or.inr rfl) (pe_op op_add (pe_op op_add (pe_ix (r := rIxT K) ix_tup (pv 4) pe_int (fun _ _ => rfl)) (pe_ix (r := rIxT K) ix_tup (pv 4) pe_int (fun _ _ => rfl))) pe_int))
      (pss_cons (ps_set (i := 6) sc__law_box_at.nd rfl (by first | exact Or.inl rfl | exact Or.inr rfl) (pe_slice (r := rSlQ K) sl_Q (pv 2) (po_some (pe_ix (r := rIxT K) ix_tup (pv 4) pe_int (fun _ _ => rfl))) (po_some (pe_op op_sub (pv 5) pe_int))))
      (pss_cons (ps_set (i := 7) sc__law_box_at.nd rfl (by first | exact Or.inl rfl | exact Or.inr rfl) (pe_ix (r := rIxL K) ix_list (pv 3) (pe_op op_sub (pv 5) pe_int) (fun _ _ => rfl)))
      (pss_cons (ps_if (PW.pt (pw_or (pt_cmpR (r := rNeD K) (op_neD hu64) (pe_slice (r := rSlQ K) sl_Q (pv 2) (po_some (pe_op op_sub (pv 5) pe_int)) (po_some (pv 5))) (pe_callTy (r := rListY K) cr_list (by rfl) bI_list Y.boot_list (pa_cons (pe_callB (r := rDivmod) cr_divmod (by rfl) bI_divmod PyProof.Rows.boot_divmod (pa_cons (pe_call G__law_sum hr1 rfl g__law_sum k__law_sum b__law_sum .nil pass0 (pa_cons (pe_op (r := rCatQ K) op_catQ (pe_lst (pa_cons (pe_ix (r := rIxL K) ix_list (pv 0) (pe_op op_add (pv 1) pe_int) (fun _ _ => rfl)) pa_nil)) (pv 6)) (pa_cons pe_int pa_nil))) (pa_cons pe_int pa_nil))) pa_nil)) (nomark _)) (pw_or1 (pt_cmpR (r := rNeD K) (op_neD hu64) (pe_slice (r := rSlQ K) sl_Q (pv 0) (po_some (pv 7)) (po_some (pe_op op_add (pv 7) pe_int))) (pe_lst (pa_cons pe_int pa_nil)) (nomark _))))) (pss_one (ps_ret pe_non)) pss_nil)
      (pss_one (ps_ret (pe_tup (pa_cons (pe_ix (r := rIxL K) ix_list (pv 0) (pe_op op_add (pv 1) pe_int) (fun _ _ => rfl)) (pa_cons (pv 6) (pa_cons (pe_op op_add (pv 7) pe_int) pa_nil)))))))))))))), ?_⟩
    unfold l_box_at at P
    have st := Stp.refl (W := []) w
    refine h_seq <| h_if ?_
    refine h_tor ?_
    refine h_test ?_
    refine h_op ?_
    refine h_sl ?_
    refine h_var rfl ?_
    refine h_part ?_
    refine h_var rfl ?_
    refine h_isI ?_
    refine h_part ?_
    refine h_op ?_
    refine h_var rfl ?_
    refine h_c ?_
    refine h_I0 ?_
    refine h_isI ?_
    obtain ⟨p1, xs2, rfl, hs3, hr4⟩ := Rep.sq w (r_row.mono st.ex)
    refine h_slQ hs3 ?_
    refine h_nwL w (ds := ((cutL a_row (some a_at) (some (a_at + 3)))).map enc) (K := K) (hr4.cut (some a_at) (some (a_at + 3))) (fun p5 B6 H7 s8 r9 => ?_) 
    replace st := st.go s8 go0
    replace w := s8.ok
    replace r9 : Rep K B6 (.ref p5) (enc (cutL a_row (some a_at) (some (a_at + 3)))) := r9
    refine h_lst ?_
    refine h_cons ?_
    refine h_c ?_
    refine h_cons ?_
    refine h_c ?_
    refine h_cons ?_
    refine h_c ?_
    refine h_nil ?_
    refine h_newL w (ds := (([0, 0, 1] : List Int)).map enc) (K := K) (.cons (Rep.int _) (.cons (Rep.int _) (.cons (Rep.int _) .nil))) (fun p10 B11 H12 s13 r14 => ?_) (by show 3 ≤ sizeLine; decide)
    replace r9 := r9.mono s13.ex
    replace st := st.go s13 go0
    replace w := s13.ok
    replace r14 : Rep K B11 (.ref p10) (enc ([0, 0, 1] : List Int)) := r14
    obtain ⟨gd, P⟩ := P.guard
    refine h_neD (d := (enc (cutL a_row (some a_at) (some (a_at + 3))))) (e := (enc ([0, 0, 1] : List Int))) w r9 r14 gd ?_
    refine h_bl ?_
    refine h_ite (fun c1 => ?_) (fun c1 => ?_)
    · replace P := P.iteT c1
      refine h_iteT ?_
      refine h_ret ?_
      refine h_c ?_
      exact P.ok _ _ _ st Rep.non
    · replace P := P.iteF c1
      refine h_tor ?_
      refine h_test ?_
      refine h_op ?_
      refine h_cb ?_
      refine h_cons ?_
      refine h_var rfl ?_
      refine h_nil ?_
      obtain ⟨p15, xs16, hv, hs17, hr18⟩ := Rep.sq w (r_row.mono st.ex)
      cases hv
      refine h_len hs17 hr18 ?_
      refine h_op ?_
      refine h_var rfl ?_
      refine h_c ?_
      refine h_I0 ?_
      refine h_I0 ?_
      refine h_bl ?_
      refine h_ite (fun c1 => ?_) (fun c1 => ?_)
      · replace P := P.iteT c1
        refine h_iteT ?_
        refine h_ret ?_
        refine h_c ?_
        exact P.ok _ _ _ st Rep.non
      · replace P := P.iteF c1
        refine h_tnot ?_
        refine h_test ?_
        refine h_chain ?_
        refine h_c ?_
        refine h_op ?_
        refine h_var rfl ?_
        refine h_op ?_
        refine h_var rfl ?_
        refine h_c ?_
        refine h_I0 ?_
        obtain ⟨p19, xs20, hv, hs21, hr22⟩ := Rep.sq w (r_row.mono st.ex)
        cases hv
        obtain ⟨x23, hx24, P⟩ := P.ix
        obtain ⟨u25, hu, r26⟩ := RepL.atE hr22 hx24
        refine h_ixL hs21 hu ?_
        cases r26
        refine h_I0 ?_
        refine h_bl ?_
        refine h_ite (fun c1 => ?_) (fun c1 => ?_)
        · replace P := P.iteT c1
          refine h_c ?_
          refine h_I0 ?_
          refine h_bl ?_
          refine h_iteN (fun c1 => ?_) (fun c1 => ?_)
          · replace P := P.iteF c1
            refine h_ret ?_
            refine h_c ?_
            exact P.ok _ _ _ st Rep.non
          · replace P := P.iteT c1
            refine h_next ?_
            refine h_nx ?_
            refine h_seq ?_
            refine h_asg ?_
            refine h_call ?_
            refine h_cons ?_
            refine h_var rfl ?_
            refine h_cons ?_
            refine h_op ?_
            refine h_var rfl ?_
            refine h_c ?_
            refine h_I0 ?_
            refine h_nil ?_
            refine ⟨B11, (.ref p1), a_row, (a_at + 4), w, rfl, (r_row.mono st.ex), (P.bind).mono (fun x27 P => ?_) (fun _ z => z)⟩
            refine fun v31 B28 H29 s30 r32 => ?_
            replace st := st.go s30 go0
            replace w := s30.ok
            obtain ⟨p33, xs34, rfl, hs35, hr36⟩ := Rep.st w r32
            obtain ⟨u37, u39, rfl, r38, r40⟩ := RepL.open2 hr36
            refine h_tupG hs35 rfl ?_
            refine h_gcons ?_
            refine h_gname ?_
            refine h_gcons ?_
            refine h_gname ?_
            refine h_gnil ?_
            refine h_nx ?_
            refine h_set ?_
            refine h_call ?_
            refine h_cons ?_
            refine h_var rfl ?_
            refine h_cons ?_
            refine h_c ?_
            refine h_nil ?_
            refine ⟨B28, u37, x27.a, 0, w, rfl, r38, (P.bind).mono (fun x41 P => ?_) (fun _ z => z)⟩
            refine fun v45 B42 H43 s44 r46 => ?_
            replace r38 := r38.mono s44.ex
            replace r40 := r40.mono s44.ex
            replace st := st.go s44 go0
            replace w := s44.ok
            refine h_seq <| h_if ?_
            refine h_tor ?_
            refine h_test ?_
            refine h_op ?_
            refine h_var rfl ?_
            refine h_c ?_
            refine h_isN r46 ?_
            refine h_bl ?_
            refine h_ite (fun c1 => ?_) (fun c1 => ?_)
            · replace P := P.iteT c1
              refine h_iteT ?_
              refine h_ret ?_
              refine h_c ?_
              exact P.ok _ _ _ st Rep.non
            · replace P := P.iteF c1
              refine h_tor ?_
              refine h_test ?_
              refine h_op ?_
              refine h_op ?_
              refine h_var rfl ?_
              refine h_c ?_
              obtain ⟨x47, hx48, P⟩ := P.some
              have rc49 := r46
              rw [hx48] at rc49
              replace rc49 : Rep K B42 v45 (enc x47) := rc49
              obtain ⟨p50, xs51, rfl, hs52, hr53⟩ := Rep.st w rc49
              obtain ⟨u54, hu, r55⟩ := RepL.at hr53 (i := 0) rfl
              refine h_ixT hs52 hu ?_
              cases r55
              refine h_c ?_
              refine h_I0 ?_
              refine h_bl ?_
              refine h_ite (fun c1 => ?_) (fun c1 => ?_)
              · replace P := P.iteT c1
                refine h_iteT ?_
                refine h_ret ?_
                refine h_c ?_
                exact P.ok _ _ _ st Rep.non
              · replace P := P.iteF c1
                refine h_test ?_
                refine h_op ?_
                refine h_op ?_
                refine h_op ?_
                refine h_op ?_
                refine h_var rfl ?_
                refine h_c ?_
                obtain ⟨x56, hx57, P⟩ := P.some
                have rc58 := r46
                rw [hx57] at rc58
                replace rc58 : Rep K B42 (.ref p50) (enc x56) := rc58
                obtain ⟨p59, xs60, hv, hs61, hr62⟩ := Rep.st w rc58
                cases hv
                obtain ⟨u63, hu, r64⟩ := RepL.at hr62 (i := 1) rfl
                refine h_ixT hs61 hu ?_
                cases r64
                refine h_op ?_
                refine h_var rfl ?_
                refine h_c ?_
                obtain ⟨x65, hx66, P⟩ := P.some
                have rc67 := r46
                rw [hx66] at rc67
                replace rc67 : Rep K B42 (.ref p50) (enc x65) := rc67
                obtain ⟨p68, xs69, hv, hs70, hr71⟩ := Rep.st w rc67
                cases hv
                obtain ⟨u72, hu, r73⟩ := RepL.at hr71 (i := 0) rfl
                refine h_ixT hs70 hu ?_
                cases r73
                refine h_I0 ?_
                refine h_c ?_
                refine h_I0 ?_
                refine h_cb ?_
                refine h_cons ?_
                refine h_var rfl ?_
                refine h_nil ?_
                obtain ⟨p74, xs75, rfl, hs76, hr77⟩ := Rep.sq w r38
                refine h_len hs76 hr77 ?_
                refine h_I0 ?_
                refine h_bl ?_
                refine h_ite (fun c1 => ?_) (fun c1 => ?_)
                · replace P := P.iteT c1
                  refine h_ret ?_
                  refine h_c ?_
                  exact P.ok _ _ _ st Rep.non
                · replace P := P.iteF c1
                  refine h_next ?_
                  refine h_nx ?_
                  refine h_set ?_
                  refine h_op ?_
                  refine h_op ?_
                  refine h_op ?_
                  refine h_var rfl ?_
                  refine h_c ?_
                  obtain ⟨x78, hx79, P⟩ := P.some
                  have rc80 := r46
                  rw [hx79] at rc80
                  replace rc80 : Rep K B42 (.ref p50) (enc x78) := rc80
                  obtain ⟨p81, xs82, hv, hs83, hr84⟩ := Rep.st w rc80
                  cases hv
                  obtain ⟨u85, hu, r86⟩ := RepL.at hr84 (i := 1) rfl
                  refine h_ixT hs83 hu ?_
                  cases r86
                  refine h_op ?_
                  refine h_var rfl ?_
                  refine h_c ?_
                  obtain ⟨x87, hx88, P⟩ := P.some
                  have rc89 := r46
                  rw [hx88] at rc89
                  replace rc89 : Rep K B42 (.ref p50) (enc x87) := rc89
                  obtain ⟨p90, xs91, hv, hs92, hr93⟩ := Rep.st w rc89
                  cases hv
                  obtain ⟨u94, hu, r95⟩ := RepL.at hr93 (i := 0) rfl
                  refine h_ixT hs92 hu ?_
                  cases r95
                  refine h_I0 ?_
                  refine h_c ?_
                  refine h_I0 ?_
                  replace P := P.lt
                  generalize hx : ((x78.b + x87.a) + 2) = x96 at P ⊢
                  refine h_set ?_
                  refine h_sl ?_
                  refine h_var rfl ?_
                  refine h_part ?_
                  refine h_op ?_
                  refine h_var rfl ?_
                  refine h_c ?_
                  obtain ⟨x97, hx98, P⟩ := P.some
                  have rc99 := r46
                  rw [hx98] at rc99
                  replace rc99 : Rep K B42 (.ref p50) (enc x97) := rc99
                  obtain ⟨p100, xs101, hv, hs102, hr103⟩ := Rep.st w rc99
                  cases hv
                  obtain ⟨u104, hu, r105⟩ := RepL.at hr103 (i := 1) rfl
                  refine h_ixT hs102 hu ?_
                  cases r105
                  refine h_isI ?_
                  refine h_part ?_
                  refine h_op ?_
                  refine h_var rfl ?_
                  refine h_c ?_
                  refine h_I0 ?_
                  refine h_isI ?_
                  obtain ⟨p106, xs107, hv, hs108, hr109⟩ := Rep.sq w r38
                  cases hv
                  refine h_slQ hs108 ?_
                  refine h_nwL w (ds := ((cutL x27.a (some x97.b) (some (x96 - 2)))).map enc) (K := K) (hr109.cut (some x97.b) (some (x96 - 2))) (fun p110 B111 H112 s113 r114 => ?_) 
                  replace r38 := r38.mono s113.ex
                  replace r40 := r40.mono s113.ex
                  replace r46 := r46.mono s113.ex
                  replace st := st.go s113 go0
                  replace w := s113.ok
                  replace r114 : Rep K B111 (.ref p110) (enc (cutL x27.a (some x97.b) (some (x96 - 2)))) := r114
                  refine h_set ?_
                  refine h_op ?_
                  refine h_var rfl ?_
                  refine h_op ?_
                  refine h_var rfl ?_
                  refine h_c ?_
                  refine h_I0 ?_
                  obtain ⟨p115, xs116, rfl, hs117, hr118⟩ := Rep.sq w r40
                  obtain ⟨x119, hx120, P⟩ := P.ix
                  obtain ⟨u121, hu, r122⟩ := RepL.atE hr118 hx120
                  refine h_ixL hs117 hu ?_
                  cases r122
                  refine h_seq <| h_if ?_
                  refine h_tor ?_
                  refine h_test ?_
                  refine h_op ?_
                  refine h_sl ?_
                  refine h_var rfl ?_
                  refine h_part ?_
                  refine h_op ?_
                  refine h_var rfl ?_
                  refine h_c ?_
                  refine h_I0 ?_
                  refine h_isI ?_
                  refine h_part ?_
                  refine h_var rfl ?_
                  refine h_isI ?_
                  obtain ⟨p123, xs124, hv, hs125, hr126⟩ := Rep.sq w r38
                  cases hv
                  refine h_slQ hs125 ?_
                  refine h_nwL w (ds := ((cutL x27.a (some (x96 - 2)) (some x96))).map enc) (K := K) (hr126.cut (some (x96 - 2)) (some x96)) (fun p127 B128 H129 s130 r131 => ?_) 
                  replace r38 := r38.mono s130.ex
                  replace r40 := r40.mono s130.ex
                  replace r46 := r46.mono s130.ex
                  replace r114 := r114.mono s130.ex
                  replace st := st.go s130 go0
                  replace w := s130.ok
                  replace r131 : Rep K B128 (.ref p127) (enc (cutL x27.a (some (x96 - 2)) (some x96))) := r131
                  refine h_cb ?_
                  refine h_cons ?_
                  refine h_cb ?_
                  refine h_cons ?_
                  refine h_call ?_
                  refine h_cons ?_
                  refine h_op ?_
                  refine h_lst ?_
                  refine h_cons ?_
                  refine h_op ?_
                  refine h_var rfl ?_
                  refine h_op ?_
                  refine h_var rfl ?_
                  refine h_c ?_
                  refine h_I0 ?_
                  obtain ⟨p132, xs133, hv, hs134, hr135⟩ := Rep.sq w (r_row.mono st.ex)
                  cases hv
                  obtain ⟨x136, hx137, P⟩ := P.ix
                  obtain ⟨u138, hu, r139⟩ := RepL.atE hr135 hx137
                  refine h_ixL hs134 hu ?_
                  cases r139
                  refine h_nil ?_
                  refine h_newL w (ds := (([x136] : List Int)).map enc) (K := K) (.cons (Rep.int _) .nil) (fun p140 B141 H142 s143 r144 => ?_) (by show 1 ≤ sizeLine; decide)
                  replace r38 := r38.mono s143.ex
                  replace r40 := r40.mono s143.ex
                  replace r46 := r46.mono s143.ex
                  replace r114 := r114.mono s143.ex
                  replace r131 := r131.mono s143.ex
                  replace st := st.go s143 go0
                  replace w := s143.ok
                  replace r144 : Rep K B141 (.ref p140) (enc ([x136] : List Int)) := r144
                  refine h_var rfl ?_
                  obtain ⟨p145, xs146, hv, hs147, hr148⟩ := Rep.sq w r144
                  cases hv
                  obtain ⟨p149, xs150, hv, hs151, hr152⟩ := Rep.sq w r114
                  cases hv
                  obtain ⟨gd, P⟩ := P.guard
                  refine h_cat hs147 hs151 (by have g := gd; simp only [hr148.length, hr152.length, List.length_map] at g ⊢; exact Nat.le_trans g (by decide)) ?_
                  refine h_nwL w (ds := ((([x136] : List Int) ++ (cutL x27.a (some x97.b) (some (x96 - 2))))).map enc) (K := K) (RepL.cat hr148 hr152) (fun p153 B154 H155 s156 r157 => ?_) 
                  replace r38 := r38.mono s156.ex
                  replace r40 := r40.mono s156.ex
                  replace r46 := r46.mono s156.ex
                  replace r114 := r114.mono s156.ex
                  replace r131 := r131.mono s156.ex
                  replace st := st.go s156 go0
                  replace w := s156.ok
                  replace r157 : Rep K B154 (.ref p153) (enc (([x136] : List Int) ++ (cutL x27.a (some x97.b) (some (x96 - 2))))) := r157
                  refine h_cons ?_
                  refine h_c ?_
                  refine h_nil ?_
                  refine ⟨B154, (.ref p153), (([x136] : List Int) ++ (cutL x27.a (some x97.b) (some (x96 - 2)))), 1, w, rfl, r157, (P.bind).mono (fun x158 P => ?_) (fun _ z => z)⟩
                  refine fun v162 B159 H160 s161 r163 => ?_
                  replace r38 := r38.mono s161.ex
                  replace r40 := r40.mono s161.ex
                  replace r46 := r46.mono s161.ex
                  replace r114 := r114.mono s161.ex
                  replace r131 := r131.mono s161.ex
                  replace r157 := r157.mono s161.ex
                  replace st := st.go s161 go0
                  replace w := s161.ok
                  cases r163
                  refine h_cons ?_
                  refine h_c ?_
                  refine h_nil ?_
                  refine h_divmod (K := K) w (by unfold CDiv; decide) (fun p164 B165 H166 s167 r168 => ?_)
                  replace r38 := r38.mono s167.ex
                  replace r40 := r40.mono s167.ex
                  replace r46 := r46.mono s167.ex
                  replace r114 := r114.mono s167.ex
                  replace r131 := r131.mono s167.ex
                  replace st := st.go s167 go0
                  replace w := s167.ok
                  replace r168 : Rep K B165 (.ref p164) (enc (⟨x158 / 256, x158 % 256⟩ : (Tp2 Int Int))) := r168
                  refine h_nil ?_
                  obtain ⟨p169, xs170, hv, hs171, hr172⟩ := Rep.st w r168
                  cases hv
                  refine h_listT hs171 ?_
                  refine h_nwL w (ds := (([(⟨x158 / 256, x158 % 256⟩ : (Tp2 Int Int)).a, (⟨x158 / 256, x158 % 256⟩ : (Tp2 Int Int)).b] : List Int)).map enc) (K := K) hr172 (fun p173 B174 H175 s176 r177 => ?_) 
                  replace r38 := r38.mono s176.ex
                  replace r40 := r40.mono s176.ex
                  replace r46 := r46.mono s176.ex
                  replace r114 := r114.mono s176.ex
                  replace r131 := r131.mono s176.ex
                  replace st := st.go s176 go0
                  replace w := s176.ok
                  replace r177 : Rep K B174 (.ref p173) (enc ([(⟨x158 / 256, x158 % 256⟩ : (Tp2 Int Int)).a, (⟨x158 / 256, x158 % 256⟩ : (Tp2 Int Int)).b] : List Int)) := r177
                  obtain ⟨gd, P⟩ := P.guard
                  refine h_neD (d := (enc (cutL x27.a (some (x96 - 2)) (some x96)))) (e := (enc ([(⟨x158 / 256, x158 % 256⟩ : (Tp2 Int Int)).a, (⟨x158 / 256, x158 % 256⟩ : (Tp2 Int Int)).b] : List Int))) w r131 r177 gd ?_
                  refine h_bl ?_
                  refine h_ite (fun c1 => ?_) (fun c1 => ?_)
                  · replace P := P.iteT c1
                    refine h_iteT ?_
                    refine h_ret ?_
                    refine h_c ?_
                    exact P.ok _ _ _ st Rep.non
                  · replace P := P.iteF c1
                    refine h_test ?_
                    refine h_op ?_
                    refine h_sl ?_
                    refine h_var rfl ?_
                    refine h_part ?_
                    refine h_var rfl ?_
                    refine h_isI ?_
                    refine h_part ?_
                    refine h_op ?_
                    refine h_var rfl ?_
                    refine h_c ?_
                    refine h_I0 ?_
                    refine h_isI ?_
                    obtain ⟨p178, xs179, hv, hs180, hr181⟩ := Rep.sq w (r_row.mono st.ex)
                    cases hv
                    refine h_slQ hs180 ?_
                    refine h_nwL w (ds := ((cutL a_row (some x119) (some (x119 + 1)))).map enc) (K := K) (hr181.cut (some x119) (some (x119 + 1))) (fun p182 B183 H184 s185 r186 => ?_) 
                    replace r38 := r38.mono s185.ex
                    replace r40 := r40.mono s185.ex
                    replace r46 := r46.mono s185.ex
                    replace r114 := r114.mono s185.ex
                    replace st := st.go s185 go0
                    replace w := s185.ok
                    replace r186 : Rep K B183 (.ref p182) (enc (cutL a_row (some x119) (some (x119 + 1)))) := r186
                    refine h_lst ?_
                    refine h_cons ?_
                    refine h_c ?_
                    refine h_nil ?_
                    refine h_newL w (ds := (([255] : List Int)).map enc) (K := K) (.cons (Rep.int _) .nil) (fun p187 B188 H189 s190 r191 => ?_) (by show 1 ≤ sizeLine; decide)
                    replace r38 := r38.mono s190.ex
                    replace r40 := r40.mono s190.ex
                    replace r46 := r46.mono s190.ex
                    replace r114 := r114.mono s190.ex
                    replace r186 := r186.mono s190.ex
                    replace st := st.go s190 go0
                    replace w := s190.ok
                    replace r191 : Rep K B188 (.ref p187) (enc ([255] : List Int)) := r191
                    obtain ⟨gd, P⟩ := P.guard
                    refine h_neD (d := (enc (cutL a_row (some x119) (some (x119 + 1))))) (e := (enc ([255] : List Int))) w r186 r191 gd ?_
                    refine h_bl ?_
                    refine h_ite (fun c1 => ?_) (fun c1 => ?_)
                    · replace P := P.iteT c1
                      refine h_ret ?_
                      refine h_c ?_
                      exact P.ok _ _ _ st Rep.non
                    · replace P := P.iteF c1
                      refine h_next ?_
                      refine h_nx ?_
                      refine h_ret ?_
                      refine h_tup ?_
                      refine h_cons ?_
                      refine h_op ?_
                      refine h_var rfl ?_
                      refine h_op ?_
                      refine h_var rfl ?_
                      refine h_c ?_
                      refine h_I0 ?_
                      obtain ⟨p192, xs193, hv, hs194, hr195⟩ := Rep.sq w (r_row.mono st.ex)
                      cases hv
                      obtain ⟨x196, hx197, P⟩ := P.ix
                      obtain ⟨u198, hu, r199⟩ := RepL.atE hr195 hx197
                      refine h_ixL hs194 hu ?_
                      cases r199
                      refine h_cons ?_
                      refine h_var rfl ?_
                      refine h_cons ?_
                      refine h_op ?_
                      refine h_var rfl ?_
                      refine h_c ?_
                      refine h_I0 ?_
                      refine h_nil ?_
                      refine h_newT w (K := K) (.cons (Rep.int _) (.cons r114 (.cons (Rep.int _) .nil))) (fun p200 B201 H202 s203 r204 => ?_) (by show 3 ≤ sizeLine; decide)
                      replace r38 := r38.mono s203.ex
                      replace r40 := r40.mono s203.ex
                      replace r46 := r46.mono s203.ex
                      replace r114 := r114.mono s203.ex
                      replace st := st.go s203 go0
                      replace w := s203.ok
                      replace r204 : Rep K B201 (.ref p200) (enc (⟨x196, (cutL x27.a (some x97.b) (some (x96 - 2))), (x119 + 1)⟩ : (Tp3 Int (List Int) Int))) := r204
                      exact P.ok _ _ _ st r204
        · replace P := P.iteF c1
          refine h_bl ?_
          refine h_iteNF ?_
          refine h_ret ?_
          refine h_c ?_
          exact P.ok _ _ _ st Rep.non
theorem ok__law_boxes_in {f : Addr} {fd : FuncData}  (F : Fun K "_law_boxes_in" "_law_boxes_in" s__law_boxes_in f fd) {f__law_box_at : Addr} {d__law_box_at : FuncData} (g__law_box_at : mg "_law_box_at" = some (.ref f__law_box_at)) (k__law_box_at : PySem.W.keepIn K (.ref f__law_box_at) = true) (b__law_box_at : L2.Binds K d__law_box_at ["_law_row", "_law_at"] []) (G__law_box_at : FnOk Pr wo K mg base CX0 2 f__law_box_at d__law_box_at ["_law_row", "_law_at"] (sp__law_box_at K)) (bI_range : mg "range" = none) (bI_len : mg "len" = none) : FnOk Pr wo K mg base CX0 3 f fd ["_law_row"] (sp__law_boxes_in K) := by
  refine F.ok sc__law_boxes_in (fun vs H Q E h => ?_) (fun cdv A outer s H0 vs Q E hr h => ?_)
  · obtain ⟨_, _, _, _, rfl, _⟩ := h; rfl
  · obtain ⟨B0, v_row, a_row, w, rfl, r_row, P⟩ := h
    have w0 := w
    have hu := hu_of hr
    have hu64 := hu64_of hr
    have hu65 := hu65_of hr
    have hr2 : Room 2 _ := hr.mono (by decide)
    refine ⟨_, (pss_cons (ps_set (i := 1) sc__law_boxes_in.nd rfl (by first | exact Or.inl rfl | exact Or.inr rfl) (pe_lst pa_nil))
      (pss_cons (ps_for PassesOwn.never rfl (pi_range1 (by rfl) bI_range (pa_cons (pe_callB (r := rLenY K) cr_len (by rfl) bI_len PySem.boot_len (pa_cons (pv 0) pa_nil)) pa_nil)) (pg_name (i := 2) sc__law_boxes_in.nd rfl (by first | exact Or.inl rfl | exact Or.inr rfl)) (pss_cons (ps_set (i := 3) sc__law_boxes_in.nd rfl (by first | exact Or.inl rfl | exact Or.inr rfl) (pe_call G__law_box_at hr2 rfl g__law_box_at k__law_box_at b__law_box_at .nil pass0 (pa_cons (pv 0) (pa_cons (pv 2) pa_nil))))
      (pss_one (ps_if (pt_cmpR op_notNn (pv 3) pe_non (nomark _)) (pss_one (ps_expr (pe_bm PySem.F.plainAttrs_list PySem.F.slot_list_append PySem.F.type_list_append mt_append (pv 1) (pa_cons (pe_tup (pa_cons (pv 2) (pa_cons (pe_ix (r := rIxT K) ix_tup (pv 3) pe_int (fun _ _ => rfl)) (pa_cons (pe_ix (r := rIxT K) ix_tup (pv 3) pe_int (fun _ _ => rfl)) pa_nil)))) pa_nil)))) pss_nil))))
      (pss_one (ps_ret (pv 1))))), ?_⟩
    unfold l_boxes_in at P
    have st := Stp.refl (W := []) w
    refine h_set ?_
    refine h_lst ?_
    refine h_nil ?_
    refine h_newM w (ds := (([] : List (Tp3 Int Int (List Int)))).map enc) (K := K) .nil (fun p1 H2 hn5 s3 m4 => ?_) (by show 0 ≤ sizeLine; decide)
    have n6 := st.nn hn5
    replace st := st.go s3 go0
    replace w := s3.ok
    refine h_seq ?_
    refine h_rng1 ?_
    refine h_cons ?_
    refine h_cb ?_
    refine h_cons ?_
    refine h_var rfl ?_
    refine h_nil ?_
    obtain ⟨p7, xs8, rfl, hs9, hr10⟩ := Rep.sq w (r_row.mono st.ex)
    refine h_len hs9 hr10 ?_
    refine h_nil ?_
    obtain ⟨gz11, P⟩ := P.guard
    have wj13 := w
    have sj12 := Stp.refl (W := [p1]) w
    refine h_forR1 P gz11 (fun (a : (List (Tp3 Int Int (List Int)))) σ' H' => ∃ (B' : Hp) (o__law_there : Option V) (o__law_at : Option V), Stp [p1] B0 H2 B' H' ∧ σ' = [some ((.ref p7)), some ((.ref p1)), o__law_at, o__law_there] ∧ Mu K B' H' p1 (a.map enc)) ⟨_, _, _, sj12, rfl, m4⟩ ?_ ?_
    · rintro N14 T15 x20 a19 _ H24 ⟨B23, o26, o27, s25, rfl, m4⟩ hlox20 hhix20 kk16 kr17 kb18 P
      replace st := st.go s25 (go1 (.inr n6))
      replace w := s25.ok
      have sj12 := s25
      refine h_gname ?_
      refine h_set ?_
      refine h_call ?_
      refine h_cons ?_
      refine h_var rfl ?_
      refine h_cons ?_
      refine h_var rfl ?_
      refine h_nil ?_
      refine ⟨B23, (.ref p7), a_row, x20, w, rfl, (r_row.mono st.ex), (P.bind).mono (fun x28 P => ?_) (fun _ z => z)⟩
      refine fun v32 B29 H30 s31 r33 => ?_
      replace m4 := m4.step s31 nm0
      replace st := st.go s31 go0
      replace sj12 := sj12.go s31 go0
      replace w := s31.ok
      refine h_if ?_
      refine h_test ?_
      refine h_op ?_
      refine h_var rfl ?_
      refine h_c ?_
      refine h_notN r33 ?_
      refine h_bl ?_
      refine h_ite (fun c1 => ?_) (fun c1 => ?_)
      · replace P := P.iteT c1
        refine h_drop ?_
        refine h_bm ?_
        refine h_var rfl ?_
        refine h_bmL m4 ?_
        refine h_cons ?_
        refine h_tup ?_
        refine h_cons ?_
        refine h_var rfl ?_
        refine h_cons ?_
        refine h_op ?_
        refine h_var rfl ?_
        refine h_c ?_
        obtain ⟨x34, hx35, P⟩ := P.some
        have rc36 := r33
        rw [hx35] at rc36
        replace rc36 : Rep K B29 v32 (enc x34) := rc36
        obtain ⟨p37, xs38, rfl, hs39, hr40⟩ := Rep.st w rc36
        obtain ⟨u41, hu, r42⟩ := RepL.at hr40 (i := 0) rfl
        refine h_ixT hs39 hu ?_
        cases r42
        refine h_cons ?_
        refine h_op ?_
        refine h_var rfl ?_
        refine h_c ?_
        obtain ⟨x43, hx44, P⟩ := P.some
        have rc45 := r33
        rw [hx44] at rc45
        replace rc45 : Rep K B29 (.ref p37) (enc x43) := rc45
        obtain ⟨p46, xs47, hv, hs48, hr49⟩ := Rep.st w rc45
        cases hv
        obtain ⟨u50, hu, r51⟩ := RepL.at hr49 (i := 1) rfl
        refine h_ixT hs48 hu ?_
        refine h_nil ?_
        refine h_newT w (K := K) (.cons (Rep.int _) (.cons (Rep.int _) (.cons r51 .nil))) (fun p52 B53 H54 s55 r56 => ?_) (by show 3 ≤ sizeLine; decide)
        replace m4 := m4.step s55 nm0
        replace r33 := r33.mono s55.ex
        replace st := st.go s55 go0
        replace sj12 := sj12.go s55 go0
        replace w := s55.ok
        replace r56 : Rep K B53 (.ref p52) (enc (⟨x20, x34.a, x43.b⟩ : (Tp3 Int Int (List Int)))) := r56
        refine h_nil ?_
        obtain ⟨gd, P⟩ := P.guard
        refine h_append (b := (⟨x20, x34.a, x43.b⟩ : (Tp3 Int Int (List Int)))) w m4 r56 gd (fun H57 s58 m4 => ?_)
        replace r33 := r33.mono s58.ex
        replace st := st.go s58 (go1 (.inr n6))
        replace sj12 := sj12.go s58 (go1 (.inl (by simp)))
        replace w := s58.ok
        refine h_nx ?_
        exact kk16 (a19 ++ [(⟨x20, x34.a, x43.b⟩ : (Tp3 Int Int (List Int)))]) _ _ ⟨_, _, _, sj12, rfl, m4⟩ P.ok
      · replace P := P.iteF c1
        refine h_next ?_
        refine h_nx ?_
        exact kk16 a19 _ _ ⟨_, _, _, sj12, rfl, m4⟩ P.ok
    · rintro a59 _ H61 ⟨B60, o63, o64, s62, rfl, m4⟩ P
      replace st := st.go s62 (go1 (.inr n6))
      replace w := s62.ok
      refine h_nx ?_
      refine h_ret ?_
      refine h_var rfl ?_
      obtain ⟨B69, e65, k66, g67, r68⟩ := Mu.keep m4
      replace st := g67 _ _ _ st w0 n6
      replace w := st.ok
      replace r68 : Rep K B69 (.ref p1) (enc a59) := r68
      exact P.ok _ _ _ st r68
theorem ok__law_thing {f : Addr} {fd : FuncData}  (F : Fun K "_law_thing" "_law_thing" s__law_thing f fd) {f__law_digit : Addr} {d__law_digit : FuncData} (g__law_digit : mg "_law_digit" = some (.ref f__law_digit)) (k__law_digit : PySem.W.keepIn K (.ref f__law_digit) = true) (b__law_digit : L2.Binds K d__law_digit ["_law_state", "_law_base"] []) (G__law_digit : FnOk Pr wo K mg base CX0 1 f__law_digit d__law_digit ["_law_state", "_law_base"] (sp__law_digit K)) {f__law_boxed : Addr} {d__law_boxed : FuncData} (g__law_boxed : mg "_law_boxed" = some (.ref f__law_boxed)) (k__law_boxed : PySem.W.keepIn K (.ref f__law_boxed) = true) (b__law_boxed : L2.Binds K d__law_boxed ["_law_kind", "_law_body"] []) (G__law_boxed : FnOk Pr wo K mg base CX0 2 f__law_boxed d__law_boxed ["_law_kind", "_law_body"] (sp__law_boxed K)) {f__law_bytes : Addr} {d__law_bytes : FuncData} (g__law_bytes : mg "_law_bytes" = some (.ref f__law_bytes)) (k__law_bytes : PySem.W.keepIn K (.ref f__law_bytes) = true) (b__law_bytes : L2.Binds K d__law_bytes ["_law_state", "_law_many"] []) (G__law_bytes : FnOk Pr wo K mg base CX0 2 f__law_bytes d__law_bytes ["_law_state", "_law_many"] (sp__law_bytes K)) (bI_len : mg "len" = none) : FnOk Pr wo K mg base CX0 3 f fd ["_law_state"] (sp__law_thing K) := by
  refine F.ok sc__law_thing (fun vs H Q E h => ?_) (fun cdv A outer s H0 vs Q E hr h => ?_)
  · obtain ⟨_, _, _, _, rfl, _⟩ := h; rfl
  · obtain ⟨B0, p_state, a_state, w, rfl, m_state, P⟩ := h
    have w0 := w
    have hu := hu_of hr
    have hu64 := hu64_of hr
    have hu65 := hu65_of hr
    have hr1 : Room 1 _ := hr.mono (by decide)
    have hr2 : Room 2 _ := hr.mono (by decide)
    refine ⟨_, (pss_cons (ps_set (i := 1) sc__law_thing.nd rfl (by first | exact Or.inl rfl | exact Or.inr rfl) (pe_call G__law_digit hr1 rfl g__law_digit k__law_digit b__law_digit .nil pass0 (pa_cons (pv 0) (pa_cons pe_int pa_nil))))
      (pss_cons (ps_set (i := 2) sc__law_thing.nd rfl (by first | exact Or.inl rfl | exact Or.inr rfl) (pe_op op_add pe_int (pe_call G__law_digit hr1 rfl g__law_digit k__law_digit b__law_digit .nil pass0 (pa_cons (pv 0) (pa_cons pe_int pa_nil)))))
      (pss_cons (ps_set (i := 3) sc__law_thing.nd rfl (by first | exact Or.inl rfl | exact Or.inr rfl) (pe_call G__law_boxed hr2 rfl g__law_boxed k__law_boxed b__law_boxed .nil pass0 (pa_cons (pv 2) (pa_cons (pe_call G__law_bytes hr2 rfl g__law_bytes k__law_bytes b__law_bytes .nil pass0 (pa_cons (pv 0) (pa_cons (pe_call G__law_digit hr1 rfl g__law_digit k__law_digit b__law_digit .nil pass0 (pa_cons (pv 0) (pa_cons pe_int pa_nil))) pa_nil))) pa_nil))))
      (pss_cons (ps_set (i := 4) sc__law_thing.nd rfl (by first | exact Or.inl rfl | exact Or.inr rfl) (pe_call G__law_digit hr1 rfl g__law_digit k__law_digit b__law_digit .nil pass0 (pa_cons (pv 0) (pa_cons (pe_callB (r := rLenY K) cr_len (by rfl) bI_len PySem.boot_len (pa_cons (pv 3) pa_nil)) pa_nil))))
      (pss_cons (ps_if (pt_cmpR op_eq (pv 1) pe_int (nomark _)) (pss_one (ps_ret (pe_op (r := rCatQ K) op_catQ (pe_op (r := rCatQ K) op_catQ (pe_slice (r := rSlQ K) sl_Q (pv 3) po_none (po_some (pv 4))) (pe_lst (pa_cons (pe_op op_mod (pe_op op_add (pe_op op_add (pe_ix (r := rIxL K) ix_list (pv 3) (pv 4) (fun _ _ => rfl)) pe_int) (pe_call G__law_digit hr1 rfl g__law_digit k__law_digit b__law_digit .nil pass0 (pa_cons (pv 0) (pa_cons pe_int pa_nil)))) pe_int) pa_nil))) (pe_slice (r := rSlQ K) sl_Q (pv 3) (po_some (pe_op op_add (pv 4) pe_int)) po_none)))) pss_nil)
      (pss_cons (ps_if (pt_cmpR op_eq (pv 1) pe_int (nomark _)) (pss_one (ps_ret (pe_slice (r := rSlQ K) sl_Q (pv 3) po_none (po_some (pv 4))))) pss_nil)
      (pss_cons (ps_if (pt_cmpR op_eq (pv 1) pe_int (nomark _)) (pss_one (ps_ret (pe_op (r := rCatQ K) op_catQ (pe_op (r := rCatQ K) op_catQ (pe_op (r := rRepQ K) op_repQ (pe_lst (pa_cons pe_int pa_nil)) (pe_call G__law_digit hr1 rfl g__law_digit k__law_digit b__law_digit .nil pass0 (pa_cons (pv 0) (pa_cons pe_int pa_nil)))) (pe_slice (r := rSlQ K) sl_Q (pe_lst (pa_cons pe_int (pa_cons pe_int (pa_cons pe_int pa_nil)))) (po_some (pe_call G__law_digit hr1 rfl g__law_digit k__law_digit b__law_digit .nil pass0 (pa_cons (pv 0) (pa_cons pe_int pa_nil)))) po_none)) (pe_lst (pa_cons (pe_call G__law_digit hr1 rfl g__law_digit k__law_digit b__law_digit .nil pass0 (pa_cons (pv 0) (pa_cons pe_int pa_nil))) pa_nil))))) pss_nil)
      (pss_cons (ps_if (pt_cmpR op_eq (pv 1) pe_int (nomark _)) (pss_one (ps_ret (pe_call G__law_bytes hr2 rfl g__law_bytes k__law_bytes b__law_bytes .nil pass0 (pa_cons (pv 0) (pa_cons (pe_call G__law_digit hr1 rfl g__law_digit k__law_digit b__law_digit .nil pass0 (pa_cons (pv 0) (pa_cons pe_int pa_nil))) pa_nil))))) pss_nil)
      (pss_cons (ps_if (pt_cmpR op_eq (pv 1) pe_int (nomark _)) (pss_one (ps_ret (pe_call G__law_boxed hr2 rfl g__law_boxed k__law_boxed b__law_boxed .nil pass0 (pa_cons (pv 2) (pa_cons (pe_op (r := rCatQ K) op_catQ (pv 3) (pe_call G__law_bytes hr2 rfl g__law_bytes k__law_bytes b__law_bytes .nil pass0 (pa_cons (pv 0) (pa_cons (pe_call G__law_digit hr1 rfl g__law_digit k__law_digit b__law_digit .nil pass0 (pa_cons (pv 0) (pa_cons pe_int pa_nil))) pa_nil)))) pa_nil))))) pss_nil)
      (pss_one (ps_ret (pv 3)))))))))))), ?_⟩
    unfold l_thing at P
    have st := Stp.refl (W := [p_state]) w
    refine h_set ?_
    refine h_call ?_
    refine h_cons ?_
    refine h_var rfl ?_
    refine h_cons ?_
    refine h_c ?_
    refine h_nil ?_
    refine ⟨B0, p_state, a_state, 7, w, rfl, m_state, (P.bind).mono (fun x1 P => ?_) (fun _ z => z)⟩
    refine fun v5 B2 H3 s4 m_state r6 => ?_
    replace st := st.go s4 (go1 (.inl (by simp)))
    replace w := s4.ok
    cases r6
    refine h_set ?_
    refine h_op ?_
    refine h_c ?_
    refine h_call ?_
    refine h_cons ?_
    refine h_var rfl ?_
    refine h_cons ?_
    refine h_c ?_
    refine h_nil ?_
    refine ⟨B2, p_state, x1.2, 9, w, rfl, m_state, (P.bind).mono (fun x7 P => ?_) (fun _ z => z)⟩
    refine fun v11 B8 H9 s10 m_state r12 => ?_
    replace st := st.go s10 (go1 (.inl (by simp)))
    replace w := s10.ok
    cases r12
    refine h_I0 ?_
    replace P := P.lt
    generalize hx : (1 + x7.1) = x13 at P ⊢
    refine h_set ?_
    refine h_call ?_
    refine h_cons ?_
    refine h_var rfl ?_
    refine h_cons ?_
    refine h_call ?_
    refine h_cons ?_
    refine h_var rfl ?_
    refine h_cons ?_
    refine h_call ?_
    refine h_cons ?_
    refine h_var rfl ?_
    refine h_cons ?_
    refine h_c ?_
    refine h_nil ?_
    refine ⟨B8, p_state, x7.2, 12, w, rfl, m_state, (P.bind).mono (fun x14 P => ?_) (fun _ z => z)⟩
    refine fun v18 B15 H16 s17 m_state r19 => ?_
    replace st := st.go s17 (go1 (.inl (by simp)))
    replace w := s17.ok
    cases r19
    refine h_nil ?_
    refine ⟨B15, p_state, x14.2, x14.1, w, rfl, m_state, (P.bind).mono (fun x20 P => ?_) (fun _ z => z)⟩
    refine fun v24 B21 H22 s23 m_state r25 => ?_
    replace st := st.go s23 (go1 (.inl (by simp)))
    replace w := s23.ok
    refine h_nil ?_
    refine ⟨B21, x13, v24, x20.1, w, rfl, r25, (P.bind).mono (fun x26 P => ?_) (fun _ z => z)⟩
    refine fun v30 B27 H28 s29 r31 => ?_
    replace m_state := m_state.step s29 nm0
    replace r25 := r25.mono s29.ex
    replace st := st.go s29 go0
    replace w := s29.ok
    refine h_set ?_
    refine h_call ?_
    refine h_cons ?_
    refine h_var rfl ?_
    refine h_cons ?_
    refine h_cb ?_
    refine h_cons ?_
    refine h_var rfl ?_
    refine h_nil ?_
    obtain ⟨p32, xs33, rfl, hs34, hr35⟩ := Rep.sq w r31
    refine h_len hs34 hr35 ?_
    refine h_nil ?_
    refine ⟨B27, p_state, x20.2, (x26.length : Int), w, rfl, m_state, (P.bind).mono (fun x36 P => ?_) (fun _ z => z)⟩
    refine fun v40 B37 H38 s39 m_state r41 => ?_
    replace r31 := r31.mono s39.ex
    replace st := st.go s39 (go1 (.inl (by simp)))
    replace w := s39.ok
    cases r41
    refine h_seq <| h_if ?_
    refine h_test ?_
    refine h_op ?_
    refine h_var rfl ?_
    refine h_c ?_
    refine h_eqI ?_
    refine h_bl ?_
    refine h_ite (fun c1 => ?_) (fun c1 => ?_)
    · replace P := P.iteT c1
      refine h_ret ?_
      refine h_op ?_
      refine h_op ?_
      refine h_sl ?_
      refine h_var rfl ?_
      refine h_nopart ?_
      refine h_part ?_
      refine h_var rfl ?_
      refine h_isI ?_
      obtain ⟨p42, xs43, hv, hs44, hr45⟩ := Rep.sq w r31
      cases hv
      refine h_slQ hs44 ?_
      refine h_nwL w (ds := ((cutL x26 none (some x36.1))).map enc) (K := K) (hr45.cut none (some x36.1)) (fun p46 B47 H48 s49 r50 => ?_) 
      replace m_state := m_state.step s49 nm0
      replace r31 := r31.mono s49.ex
      replace st := st.go s49 go0
      replace w := s49.ok
      replace r50 : Rep K B47 (.ref p46) (enc (cutL x26 none (some x36.1))) := r50
      refine h_lst ?_
      refine h_cons ?_
      refine h_op ?_
      refine h_op ?_
      refine h_op ?_
      refine h_op ?_
      refine h_var rfl ?_
      refine h_var rfl ?_
      obtain ⟨p51, xs52, hv, hs53, hr54⟩ := Rep.sq w r31
      cases hv
      obtain ⟨x55, hx56, P⟩ := P.ix
      obtain ⟨u57, hu, r58⟩ := RepL.atE hr54 hx56
      refine h_ixL hs53 hu ?_
      cases r58
      refine h_c ?_
      refine h_I0 ?_
      refine h_call ?_
      refine h_cons ?_
      refine h_var rfl ?_
      refine h_cons ?_
      refine h_c ?_
      refine h_nil ?_
      refine ⟨B47, p_state, x36.2, 255, w, rfl, m_state, (P.bind).mono (fun x59 P => ?_) (fun _ z => z)⟩
      refine fun v63 B60 H61 s62 m_state r64 => ?_
      replace r31 := r31.mono s62.ex
      replace r50 := r50.mono s62.ex
      replace st := st.go s62 (go1 (.inl (by simp)))
      replace w := s62.ok
      cases r64
      refine h_I0 ?_
      refine h_c ?_
      refine h_I (by decide +kernel) ?_
      refine h_nil ?_
      refine h_newL w (ds := (([(((x55 + 1) + x59.1) % 256)] : List Int)).map enc) (K := K) (.cons (Rep.int _) .nil) (fun p65 B66 H67 s68 r69 => ?_) (by show 1 ≤ sizeLine; decide)
      replace m_state := m_state.step s68 nm0
      replace r31 := r31.mono s68.ex
      replace r50 := r50.mono s68.ex
      replace st := st.go s68 go0
      replace w := s68.ok
      replace r69 : Rep K B66 (.ref p65) (enc ([(((x55 + 1) + x59.1) % 256)] : List Int)) := r69
      obtain ⟨p70, xs71, hv, hs72, hr73⟩ := Rep.sq w r50
      cases hv
      obtain ⟨p74, xs75, hv, hs76, hr77⟩ := Rep.sq w r69
      cases hv
      obtain ⟨gd, P⟩ := P.guard
      refine h_cat hs72 hs76 (by have g := gd; simp only [hr73.length, hr77.length, List.length_map] at g ⊢; exact Nat.le_trans g (by decide)) ?_
      refine h_nwL w (ds := (((cutL x26 none (some x36.1)) ++ ([(((x55 + 1) + x59.1) % 256)] : List Int))).map enc) (K := K) (RepL.cat hr73 hr77) (fun p78 B79 H80 s81 r82 => ?_) 
      replace m_state := m_state.step s81 nm0
      replace r31 := r31.mono s81.ex
      replace st := st.go s81 go0
      replace w := s81.ok
      replace r82 : Rep K B79 (.ref p78) (enc ((cutL x26 none (some x36.1)) ++ ([(((x55 + 1) + x59.1) % 256)] : List Int))) := r82
      refine h_sl ?_
      refine h_var rfl ?_
      refine h_part ?_
      refine h_op ?_
      refine h_var rfl ?_
      refine h_c ?_
      refine h_I0 ?_
      refine h_isI ?_
      refine h_nopart ?_
      obtain ⟨p83, xs84, hv, hs85, hr86⟩ := Rep.sq w r31
      cases hv
      refine h_slQ hs85 ?_
      refine h_nwL w (ds := ((cutL x26 (some (x36.1 + 1)) none)).map enc) (K := K) (hr86.cut (some (x36.1 + 1)) none) (fun p87 B88 H89 s90 r91 => ?_) 
      replace m_state := m_state.step s90 nm0
      replace r31 := r31.mono s90.ex
      replace r82 := r82.mono s90.ex
      replace st := st.go s90 go0
      replace w := s90.ok
      replace r91 : Rep K B88 (.ref p87) (enc (cutL x26 (some (x36.1 + 1)) none)) := r91
      obtain ⟨p92, xs93, hv, hs94, hr95⟩ := Rep.sq w r82
      cases hv
      obtain ⟨p96, xs97, hv, hs98, hr99⟩ := Rep.sq w r91
      cases hv
      obtain ⟨gd, P⟩ := P.guard
      refine h_cat hs94 hs98 (by have g := gd; simp only [hr95.length, hr99.length, List.length_map] at g ⊢; exact Nat.le_trans g (by decide)) ?_
      refine h_nwL w (ds := ((((cutL x26 none (some x36.1)) ++ ([(((x55 + 1) + x59.1) % 256)] : List Int)) ++ (cutL x26 (some (x36.1 + 1)) none))).map enc) (K := K) (RepL.cat hr95 hr99) (fun p100 B101 H102 s103 r104 => ?_) 
      replace m_state := m_state.step s103 nm0
      replace r31 := r31.mono s103.ex
      replace st := st.go s103 go0
      replace w := s103.ok
      replace r104 : Rep K B101 (.ref p100) (enc (((cutL x26 none (some x36.1)) ++ ([(((x55 + 1) + x59.1) % 256)] : List Int)) ++ (cutL x26 (some (x36.1 + 1)) none))) := r104
      exact P.ok _ _ _ st m_state r104
    · replace P := P.iteF c1
      refine h_next ?_
      refine h_nx ?_
      refine h_seq <| h_if ?_
      refine h_test ?_
      refine h_op ?_
      refine h_var rfl ?_
      refine h_c ?_
      refine h_eqI ?_
      refine h_bl ?_
      refine h_ite (fun c1 => ?_) (fun c1 => ?_)
      · replace P := P.iteT c1
        refine h_ret ?_
        refine h_sl ?_
        refine h_var rfl ?_
        refine h_nopart ?_
        refine h_part ?_
        refine h_var rfl ?_
        refine h_isI ?_
        obtain ⟨p105, xs106, hv, hs107, hr108⟩ := Rep.sq w r31
        cases hv
        refine h_slQ hs107 ?_
        refine h_nwL w (ds := ((cutL x26 none (some x36.1))).map enc) (K := K) (hr108.cut none (some x36.1)) (fun p109 B110 H111 s112 r113 => ?_) 
        replace m_state := m_state.step s112 nm0
        replace r31 := r31.mono s112.ex
        replace st := st.go s112 go0
        replace w := s112.ok
        replace r113 : Rep K B110 (.ref p109) (enc (cutL x26 none (some x36.1))) := r113
        exact P.ok _ _ _ st m_state r113
      · replace P := P.iteF c1
        refine h_next ?_
        refine h_nx ?_
        refine h_seq <| h_if ?_
        refine h_test ?_
        refine h_op ?_
        refine h_var rfl ?_
        refine h_c ?_
        refine h_eqI ?_
        refine h_bl ?_
        refine h_ite (fun c1 => ?_) (fun c1 => ?_)
        · replace P := P.iteT c1
          refine h_ret ?_
          refine h_op ?_
          refine h_op ?_
          refine h_op ?_
          refine h_lst ?_
          refine h_cons ?_
          refine h_c ?_
          refine h_nil ?_
          refine h_newL w (ds := (([0] : List Int)).map enc) (K := K) (.cons (Rep.int _) .nil) (fun p114 B115 H116 s117 r118 => ?_) (by show 1 ≤ sizeLine; decide)
          replace m_state := m_state.step s117 nm0
          replace r31 := r31.mono s117.ex
          replace st := st.go s117 go0
          replace w := s117.ok
          replace r118 : Rep K B115 (.ref p114) (enc ([0] : List Int)) := r118
          refine h_call ?_
          refine h_cons ?_
          refine h_var rfl ?_
          refine h_cons ?_
          refine h_c ?_
          refine h_nil ?_
          refine ⟨B115, p_state, x36.2, 3, w, rfl, m_state, (P.bind).mono (fun x119 P => ?_) (fun _ z => z)⟩
          refine fun v123 B120 H121 s122 m_state r124 => ?_
          replace r31 := r31.mono s122.ex
          replace r118 := r118.mono s122.ex
          replace st := st.go s122 (go1 (.inl (by simp)))
          replace w := s122.ok
          cases r124
          obtain ⟨p125, xs126, hv, hs127, hr128⟩ := Rep.sq w r118
          cases hv
          obtain ⟨gd, P⟩ := P.guard
          refine h_repQ hs127 (hr128.length.trans (List.length_map ..)) gd ?_
          refine h_nwL w (ds := ((timesL ([0] : List Int) x119.1)).map enc) (K := K) (RepL.times hr128 x119.1) (fun p129 B130 H131 s132 r133 => ?_) 
          replace m_state := m_state.step s132 nm0
          replace r31 := r31.mono s132.ex
          replace st := st.go s132 go0
          replace w := s132.ok
          replace r133 : Rep K B130 (.ref p129) (enc (timesL ([0] : List Int) x119.1)) := r133
          refine h_sl ?_
          refine h_lst ?_
          refine h_cons ?_
          refine h_c ?_
          refine h_cons ?_
          refine h_c ?_
          refine h_cons ?_
          refine h_c ?_
          refine h_nil ?_
          refine h_newL w (ds := (([0, 0, 1] : List Int)).map enc) (K := K) (.cons (Rep.int _) (.cons (Rep.int _) (.cons (Rep.int _) .nil))) (fun p134 B135 H136 s137 r138 => ?_) (by show 3 ≤ sizeLine; decide)
          replace m_state := m_state.step s137 nm0
          replace r31 := r31.mono s137.ex
          replace r133 := r133.mono s137.ex
          replace st := st.go s137 go0
          replace w := s137.ok
          replace r138 : Rep K B135 (.ref p134) (enc ([0, 0, 1] : List Int)) := r138
          refine h_part ?_
          refine h_call ?_
          refine h_cons ?_
          refine h_var rfl ?_
          refine h_cons ?_
          refine h_c ?_
          refine h_nil ?_
          refine ⟨B135, p_state, x119.2, 2, w, rfl, m_state, (P.bind).mono (fun x139 P => ?_) (fun _ z => z)⟩
          refine fun v143 B140 H141 s142 m_state r144 => ?_
          replace r31 := r31.mono s142.ex
          replace r133 := r133.mono s142.ex
          replace r138 := r138.mono s142.ex
          replace st := st.go s142 (go1 (.inl (by simp)))
          replace w := s142.ok
          cases r144
          refine h_isI ?_
          refine h_nopart ?_
          obtain ⟨p145, xs146, hv, hs147, hr148⟩ := Rep.sq w r138
          cases hv
          refine h_slQ hs147 ?_
          refine h_nwL w (ds := ((cutL ([0, 0, 1] : List Int) (some x139.1) none)).map enc) (K := K) (hr148.cut (some x139.1) none) (fun p149 B150 H151 s152 r153 => ?_) 
          replace m_state := m_state.step s152 nm0
          replace r31 := r31.mono s152.ex
          replace r133 := r133.mono s152.ex
          replace st := st.go s152 go0
          replace w := s152.ok
          replace r153 : Rep K B150 (.ref p149) (enc (cutL ([0, 0, 1] : List Int) (some x139.1) none)) := r153
          obtain ⟨p154, xs155, hv, hs156, hr157⟩ := Rep.sq w r133
          cases hv
          obtain ⟨p158, xs159, hv, hs160, hr161⟩ := Rep.sq w r153
          cases hv
          obtain ⟨gd, P⟩ := P.guard
          refine h_cat hs156 hs160 (by have g := gd; simp only [hr157.length, hr161.length, List.length_map] at g ⊢; exact Nat.le_trans g (by decide)) ?_
          refine h_nwL w (ds := (((timesL ([0] : List Int) x119.1) ++ (cutL ([0, 0, 1] : List Int) (some x139.1) none))).map enc) (K := K) (RepL.cat hr157 hr161) (fun p162 B163 H164 s165 r166 => ?_) 
          replace m_state := m_state.step s165 nm0
          replace r31 := r31.mono s165.ex
          replace st := st.go s165 go0
          replace w := s165.ok
          replace r166 : Rep K B163 (.ref p162) (enc ((timesL ([0] : List Int) x119.1) ++ (cutL ([0, 0, 1] : List Int) (some x139.1) none))) := r166
          refine h_lst ?_
          refine h_cons ?_
          refine h_call ?_
          refine h_cons ?_
          refine h_var rfl ?_
          refine h_cons ?_
          refine h_c ?_
          refine h_nil ?_
          refine ⟨B163, p_state, x139.2, 11, w, rfl, m_state, (P.bind).mono (fun x167 P => ?_) (fun _ z => z)⟩
          refine fun v171 B168 H169 s170 m_state r172 => ?_
          replace r31 := r31.mono s170.ex
          replace r166 := r166.mono s170.ex
          replace st := st.go s170 (go1 (.inl (by simp)))
          replace w := s170.ok
          cases r172
          refine h_nil ?_
          refine h_newL w (ds := (([x167.1] : List Int)).map enc) (K := K) (.cons (Rep.int _) .nil) (fun p173 B174 H175 s176 r177 => ?_) (by show 1 ≤ sizeLine; decide)
          replace m_state := m_state.step s176 nm0
          replace r31 := r31.mono s176.ex
          replace r166 := r166.mono s176.ex
          replace st := st.go s176 go0
          replace w := s176.ok
          replace r177 : Rep K B174 (.ref p173) (enc ([x167.1] : List Int)) := r177
          obtain ⟨p178, xs179, hv, hs180, hr181⟩ := Rep.sq w r166
          cases hv
          obtain ⟨p182, xs183, hv, hs184, hr185⟩ := Rep.sq w r177
          cases hv
          obtain ⟨gd, P⟩ := P.guard
          refine h_cat hs180 hs184 (by have g := gd; simp only [hr181.length, hr185.length, List.length_map] at g ⊢; exact Nat.le_trans g (by decide)) ?_
          refine h_nwL w (ds := ((((timesL ([0] : List Int) x119.1) ++ (cutL ([0, 0, 1] : List Int) (some x139.1) none)) ++ ([x167.1] : List Int))).map enc) (K := K) (RepL.cat hr181 hr185) (fun p186 B187 H188 s189 r190 => ?_) 
          replace m_state := m_state.step s189 nm0
          replace r31 := r31.mono s189.ex
          replace st := st.go s189 go0
          replace w := s189.ok
          replace r190 : Rep K B187 (.ref p186) (enc (((timesL ([0] : List Int) x119.1) ++ (cutL ([0, 0, 1] : List Int) (some x139.1) none)) ++ ([x167.1] : List Int))) := r190
          exact P.ok _ _ _ st m_state r190
        · replace P := P.iteF c1
          refine h_next ?_
          refine h_nx ?_
          refine h_seq <| h_if ?_
          refine h_test ?_
          refine h_op ?_
          refine h_var rfl ?_
          refine h_c ?_
          refine h_eqI ?_
          refine h_bl ?_
          refine h_ite (fun c1 => ?_) (fun c1 => ?_)
          · replace P := P.iteT c1
            refine h_ret ?_
            refine h_call ?_
            refine h_cons ?_
            refine h_var rfl ?_
            refine h_cons ?_
            refine h_call ?_
            refine h_cons ?_
            refine h_var rfl ?_
            refine h_cons ?_
            refine h_c ?_
            refine h_nil ?_
            refine ⟨B37, p_state, x36.2, 6, w, rfl, m_state, (P.bind).mono (fun x191 P => ?_) (fun _ z => z)⟩
            refine fun v195 B192 H193 s194 m_state r196 => ?_
            replace r31 := r31.mono s194.ex
            replace st := st.go s194 (go1 (.inl (by simp)))
            replace w := s194.ok
            cases r196
            refine h_nil ?_
            refine ⟨B192, p_state, x191.2, x191.1, w, rfl, m_state, (P.bind).mono (fun x197 P => ?_) (fun _ z => z)⟩
            refine fun v201 B198 H199 s200 m_state r202 => ?_
            replace r31 := r31.mono s200.ex
            replace st := st.go s200 (go1 (.inl (by simp)))
            replace w := s200.ok
            exact P.ok _ _ _ st m_state r202
          · replace P := P.iteF c1
            refine h_next ?_
            refine h_nx ?_
            refine h_seq <| h_if ?_
            refine h_test ?_
            refine h_op ?_
            refine h_var rfl ?_
            refine h_c ?_
            refine h_eqI ?_
            refine h_bl ?_
            refine h_ite (fun c1 => ?_) (fun c1 => ?_)
            · replace P := P.iteT c1
              refine h_ret ?_
              refine h_call ?_
              refine h_cons ?_
              refine h_var rfl ?_
              refine h_cons ?_
              refine h_op ?_
              refine h_var rfl ?_
              refine h_call ?_
              refine h_cons ?_
              refine h_var rfl ?_
              refine h_cons ?_
              refine h_call ?_
              refine h_cons ?_
              refine h_var rfl ?_
              refine h_cons ?_
              refine h_c ?_
              refine h_nil ?_
              refine ⟨B37, p_state, x36.2, 3, w, rfl, m_state, (P.bind).mono (fun x203 P => ?_) (fun _ z => z)⟩
              refine fun v207 B204 H205 s206 m_state r208 => ?_
              replace r31 := r31.mono s206.ex
              replace st := st.go s206 (go1 (.inl (by simp)))
              replace w := s206.ok
              cases r208
              refine h_nil ?_
              refine ⟨B204, p_state, x203.2, x203.1, w, rfl, m_state, (P.bind).mono (fun x209 P => ?_) (fun _ z => z)⟩
              refine fun v213 B210 H211 s212 m_state r214 => ?_
              replace r31 := r31.mono s212.ex
              replace st := st.go s212 (go1 (.inl (by simp)))
              replace w := s212.ok
              obtain ⟨p215, xs216, hv, hs217, hr218⟩ := Rep.sq w r31
              cases hv
              obtain ⟨p219, xs220, rfl, hs221, hr222⟩ := Rep.sq w r214
              obtain ⟨gd, P⟩ := P.guard
              refine h_cat hs217 hs221 (by have g := gd; simp only [hr218.length, hr222.length, List.length_map] at g ⊢; exact Nat.le_trans g (by decide)) ?_
              refine h_nwL w (ds := ((x26 ++ x209.1)).map enc) (K := K) (RepL.cat hr218 hr222) (fun p223 B224 H225 s226 r227 => ?_) 
              replace m_state := m_state.step s226 nm0
              replace r31 := r31.mono s226.ex
              replace st := st.go s226 go0
              replace w := s226.ok
              replace r227 : Rep K B224 (.ref p223) (enc (x26 ++ x209.1)) := r227
              refine h_nil ?_
              refine ⟨B224, x13, (.ref p223), (x26 ++ x209.1), w, rfl, r227, (P.bind).mono (fun x228 P => ?_) (fun _ z => z)⟩
              refine fun v232 B229 H230 s231 r233 => ?_
              replace m_state := m_state.step s231 nm0
              replace r31 := r31.mono s231.ex
              replace r227 := r227.mono s231.ex
              replace st := st.go s231 go0
              replace w := s231.ok
              exact P.ok _ _ _ st m_state r233
            · replace P := P.iteF c1
              refine h_next ?_
              refine h_nx ?_
              refine h_ret ?_
              refine h_var rfl ?_
              exact P.ok _ _ _ st m_state r31
theorem ok__law_refused {f : Addr} {fd : FuncData}  (F : Fun K "_law_refused" "_law_refused" s__law_refused f fd) {C_NoBytes : Addr} (T_NoBytes : ExcR K mg "NoBytes" C_NoBytes) {C_ScrollError : Addr} (T_ScrollError : ExcR K mg "ScrollError" C_ScrollError) {C_NoKind : Addr} (T_NoKind : ExcR K mg "NoKind" C_NoKind) {C_NoPlace : Addr} (T_NoPlace : ExcR K mg "NoPlace" C_NoPlace) (p_NoBytes_NoBytes : PySem.W.subIn K (.ref C_NoBytes) (.ref C_NoBytes) = some true) (p_NoBytes_NoKind : PySem.W.subIn K (.ref C_NoBytes) (.ref C_NoKind) = some false) (p_NoBytes_NoPlace : PySem.W.subIn K (.ref C_NoBytes) (.ref C_NoPlace) = some false) {f_boxes_in__any : Addr} {d_boxes_in__any : FuncData} (g_boxes_in__any : mg "boxes_in" = some (.ref f_boxes_in__any)) (k_boxes_in__any : PySem.W.keepIn K (.ref f_boxes_in__any) = true) (b_boxes_in__any : L2.Binds K d_boxes_in__any ["row"] []) (G_boxes_in__any : FnOk Pr wo K mg base (L2.CX Pr wo) 4 f_boxes_in__any d_boxes_in__any ["row"] (sp_boxes_in__any K mg)) (bI_isinstance : mg "isinstance" = none) : FnOk Pr wo K mg base CX0 5 f fd ["_law_row"] (sp__law_refused K) := by
  refine F.ok sc__law_refused (fun vs H Q E h => ?_) (fun cdv A outer s H0 vs Q E hr h => ?_)
  · obtain ⟨_, _, _, _, rfl, _⟩ := h; rfl
  · obtain ⟨B0, v_row, a_row, w, rfl, r_row, P⟩ := h
    have w0 := w
    have hu := hu_of hr
    have hu64 := hu64_of hr
    have hu65 := hu65_of hr
    have hr4 : Room 4 _ := hr.mono (by decide)
    refine ⟨_, (pss_cons (ps_tryM (K := K) (Wout := fun _ _ _ _ => False) rfl rfl takes0 (fun W pn xe tk _ => (pss_one (ps_expr (pe_callS G_boxes_in__any hr4 rfl g_boxes_in__any k_boxes_in__any b_boxes_in__any (fun σ => passAt tk σ) (pa_cons (pv 0) pa_nil))))) (.named (i := 1) sc__law_refused.nd rfl rfl (T_NoBytes.names rfl (by decide)) (fun a oe cls d pn hz hf => (pss_one (ps_ret (pe_not (pe_isET (K := K) (a := a) (cls := cls) (d := d) rfl (fun Dc e1 e2 ec => by subst e1 e2; exact (pe_callB (r := rIsET K Dc a) (call_isET ec hz hf) (by rfl) bI_isinstance PyProof.Rows.boot_isinstance (pa_cons (pv 1) (pa_cons (pe_tup (pa_cons (pe_glob (v := .ref C_NoKind) (by rfl) T_NoKind.g rfl) (pa_cons (pe_glob (v := .ref C_NoPlace) (by rfl) T_NoPlace.g rfl) pa_nil))) pa_nil))))))))) (.plain (T_ScrollError.names rfl (by decide)) (fun a oe cls d pn hz hf => (pss_one (ps_ret pe_bl))) .nil)))
      (pss_one (ps_ret pe_bl))), ?_⟩
    unfold l_refused at P
    have st := Stp.refl (W := []) w
    refine h_seq ?_
    have wj2 := w
    have sj1 := Stp.refl (W := []) w
    refine h_tryJ P (fun (a : Unit) σ' H' => ∃ (B' : Hp) (o_e : Option V), Stp [] B0 H0 B' H' ∧ σ' = [some (v_row), o_e]) (fun N3 T4 kk5 kr6 P => ?_) ?_
    · refine h_tryM ?_
      refine h_drop ?_
      refine h_callS ?_
      refine h_cons ?_
      refine h_var rfl ?_
      refine h_nil ?_
      refine ⟨B0, v_row, a_row, w, rfl, (r_row.mono st.ex), Post.mono2 P.bind (fun e13 P => ?_) (fun x7 P => ?_)⟩
      · skip
        rintro C17 B14 H15 g s16
        replace st := st.go s16 go0
        replace sj1 := sj1.go s16 go0
        replace w := s16.ok
        obtain ⟨ec, ea⟩ := e13
        have he := P.guard.1
        replace P := P.guard.2
        obtain rfl : ec = "NoBytes" := List.mem_singleton.mp he
        obtain rfl : C_NoBytes = C17 := Value.ref.inj (Option.some.inj (T_NoBytes.g.symm.trans g))
        refine h_mixHitA T_NoBytes.toExcT p_NoBytes_NoBytes (fun ax18 haax18 => ?_)
        refine h_ret ?_
        refine h_not ?_
        refine h_isET T_NoBytes.toExcT (h_cons (h_var rfl (h_cons (h_tup ?_))))
        refine h_cons (h_c ?_)
        refine h_cons (h_c ?_)
        refine h_nil (h_clsTup w (by show 2 ≤ sizeLine; decide) fun p21 s20 => h_nil ?_)
        refine h_isETR (.cons (.own _) (.cons (.own _) .nil)) (kitA_f (T_NoKind.kit p_NoBytes_NoKind) (kitA_f (T_NoPlace.kit p_NoBytes_NoPlace) kitA_nil)) ?_
        replace st := st.go s20 go0
        replace sj1 := sj1.go s20 go0
        replace w := s20.ok
        refine h_bl ?_
        exact (kr6 _ P.ok) _ _ _ st (Rep.bl _)
      refine fun v11 B8 H9 s10 r12 => ?_
      replace st := st.go s10 go0
      replace sj1 := sj1.go s10 go0
      replace w := s10.ok
      refine h_nx ?_
      exact kk5 () _ _ ⟨_, _, sj1, rfl⟩ P.ok
    · rintro a22 _ H24 ⟨B23, o26, s25, rfl⟩ P
      replace st := st.go s25 go0
      replace w := s25.ok
      refine h_nx ?_
      refine h_ret ?_
      refine h_c ?_
      exact P.ok _ _ _ st (Rep.bl _)
theorem ok__law_apart {f : Addr} {fd : FuncData}  (F : Fun K "_law_apart" "_law_apart" s__law_apart f fd) {f__law_box_at : Addr} {d__law_box_at : FuncData} (g__law_box_at : mg "_law_box_at" = some (.ref f__law_box_at)) (k__law_box_at : PySem.W.keepIn K (.ref f__law_box_at) = true) (b__law_box_at : L2.Binds K d__law_box_at ["_law_row", "_law_at"] []) (G__law_box_at : FnOk Pr wo K mg base CX0 2 f__law_box_at d__law_box_at ["_law_row", "_law_at"] (sp__law_box_at K)) (bI_all : mg "all" = none) (bI_range : mg "range" = none) (bI_len : mg "len" = none) : FnOk Pr wo K mg base CX0 3 f fd ["_law_found", "_law_row"] (sp__law_apart K) := by
  refine F.ok sc__law_apart (fun vs H Q E h => ?_) (fun cdv A outer s H0 vs Q E hr h => ?_)
  · obtain ⟨_, _, _, _, _, _, rfl, _⟩ := h; rfl
  · obtain ⟨B0, v_found, a_found, v_row, a_row, w, rfl, r_found, r_row, P⟩ := h
    have w0 := w
    have hu := hu_of hr
    have hu64 := hu64_of hr
    have hu65 := hu65_of hr
    have hr2 : Room 2 _ := hr.mono (by decide)
    refine ⟨_, (pss_cons (ps_set (i := 2) sc__law_apart.nd rfl (by first | exact Or.inl rfl | exact Or.inr rfl) (pe_lc (own := [("_law_at", 3), ("_law_kind", 4), ("_law_body", 5)]) rfl sc__law_apart.nd (pi_list (pv 0)) (blkOk_by (N := ["_law_found", "_law_row", "_law_ends", "_law_at", "_law_kind", "_law_body", "_law_k"]) (sc := defScope s__law_apart) (by decide +kernel)) (fun _ _ _ _ _ => (pg_tupK (K := K) (n := 3) rfl rfl (pgs_cons (pg_name (i := 3) sc__law_apart.nd rfl (by first | exact Or.inl rfl | exact Or.inr rfl)) (pgs_cons (pg_name (i := 4) sc__law_apart.nd rfl (by first | exact Or.inl rfl | exact Or.inr rfl)) (pgs_cons (pg_name (i := 5) sc__law_apart.nd rfl (by first | exact Or.inl rfl | exact Or.inr rfl)) pgs_nil))))) (fun _ _ _ _ _ => pts_nil) (fun _ _ _ _ _ => (pe_ix (r := rIxT K) ix_tup (pe_call G__law_box_at hr2 rfl g__law_box_at k__law_box_at b__law_box_at .nil pass0 (pa_cons (pv 1) (pa_cons (pv 3) pa_nil))) pe_int (fun _ _ => rfl)))))
      (pss_one (ps_ret (pe_callB (r := rAll K) (cr_all rfl) (by rfl) bI_all PyProof.Rows.boot_all (pa_cons (pe_lc (own := [("_law_k", 6)]) rfl sc__law_apart.nd (pi_range2 (by rfl) bI_range (pa_cons pe_int (pa_cons (pe_callB (r := rLenY K) cr_len (by rfl) bI_len PySem.boot_len (pa_cons (pv 0) pa_nil)) pa_nil))) (blkOk_by (N := ["_law_found", "_law_row", "_law_ends", "_law_at", "_law_kind", "_law_body", "_law_k"]) (sc := defScope s__law_apart) (by decide +kernel)) (fun _ _ _ _ _ => (pg_name (i := 6) sc__law_apart.nd rfl (by first | exact Or.inl rfl | exact Or.inr rfl))) (fun _ _ _ _ _ => pts_nil) (fun _ _ _ _ _ => (pe_cmpR op_le (pe_ix (r := rIxL K) ix_list (pv 2) (pe_op op_sub (pv 6) pe_int) (fun _ _ => rfl)) (pe_ix (r := rIxT K) ix_tup (pe_ix (r := rIxL K) ix_list (pv 0) (pv 6) (fun _ _ => rfl)) pe_int (fun _ _ => rfl)) (nomark _)))) pa_nil))))), ?_⟩
    unfold l_apart at P
    have st := Stp.refl (W := []) w
    refine h_set ?_
    refine h_lcE ?_
    refine h_var rfl ?_
    obtain ⟨p1, xs2, rfl, hb3, hr4⟩ := Rep.sqB (r_found.mono st.ex)
    refine h_lcL P (w.l hb3) hr4 (fun Dl (acc : List Int) (a : Unit) H' => ∃ B', Stp [] B0 H0 B' H' ∧ H0 Dl = none ∧ Mu K B' H' Dl (acc.map enc)) (fun Dl hD => ⟨_, Stp.newM w hD, hD, Mu.new w hD .nil⟩) (fun _ _ _ _ j => ?_) ?_ ?_
    · obtain ⟨B14, s15, hD16, m17⟩ := j
      exact s15.ok.l (s15.ex.l hb3)
    · rintro Dl5 N6 T7 x8 v9 acc11 a12 H13 ⟨B14, s15, hD16, m17⟩ r10 hz18 kk19 kn20 P
      have wj22 := w
      have sj21 := s15
      have n23 := st.nn hD16
      replace st := st.go s15 go0
      replace w := s15.ok
      replace r10 := r10.mono s15.ex
      obtain ⟨p24, xs25, rfl, hs26, hr27⟩ := Rep.st w r10
      obtain ⟨u28, u30, u32, rfl, r29, r31, r33⟩ := RepL.open3 hr27
      refine h_tupG hs26 rfl ?_
      refine h_gcons ?_
      refine h_gname ?_
      cases r29
      refine h_gcons ?_
      refine h_gname ?_
      cases r31
      refine h_gcons ?_
      refine h_gname ?_
      refine h_gnil ?_
      refine h_lcT rfl ?_
      refine h_op ?_
      refine h_call ?_
      refine h_cons ?_
      refine h_var rfl ?_
      refine h_cons ?_
      refine h_var rfl ?_
      refine h_nil ?_
      refine ⟨B14, v_row, a_row, x8.a, w, rfl, (r_row.mono st.ex), (P.bind).mono (fun x34 P => ?_) (fun _ z => z)⟩
      refine fun v38 B35 H36 s37 r39 => ?_
      replace r33 := r33.mono s37.ex
      replace m17 := m17.step s37 nm0
      replace st := st.go s37 go0
      replace sj21 := sj21.go s37 go0
      replace w := s37.ok
      refine h_c ?_
      obtain ⟨x40, hx41, P⟩ := P.some
      have rc42 := r39
      rw [hx41] at rc42
      replace rc42 : Rep K B35 v38 (enc x40) := rc42
      obtain ⟨p43, xs44, rfl, hs45, hr46⟩ := Rep.st w rc42
      obtain ⟨u47, hu, r48⟩ := RepL.at hr46 (i := 2) rfl
      refine h_ixT hs45 hu ?_
      cases r48
      refine h_app (b := x40.c) w m17 (Rep.int _) hz18 (fun H49 s50 m17 => ?_)
      replace r33 := r33.mono s50.ex
      replace st := st.go s50 (go1 (.inr n23))
      replace sj21 := sj21.go s50 (go1 (.inr hD16))
      replace w := s50.ok
      exact kk19 x40.c () _ ⟨_, sj21, hD16, m17⟩ P.ok
    · rintro Dl5 acc11 a12 H13 ⟨B14, s15, hD16, m17⟩ P
      have n51 := st.nn hD16
      replace st := st.go s15 go0
      replace w := s15.ok
      replace P := P.un2
      obtain ⟨B56, e52, k53, g54, r55⟩ := Mu.keep m17
      replace st := g54 _ _ _ st w0 n51
      replace w := st.ok
      replace r55 : Rep K B56 (.ref Dl5) (enc acc11) := r55
      refine h_ret ?_
      refine h_cb ?_
      refine h_cons ?_
      refine h_lcR2E ?_
      refine h_cons ?_
      refine h_c ?_
      refine h_cons ?_
      refine h_cb ?_
      refine h_cons ?_
      refine h_var rfl ?_
      refine h_nil ?_
      obtain ⟨p57, xs58, hv, hs59, hr60⟩ := Rep.sq w (r_found.mono st.ex)
      cases hv
      refine h_len hs59 hr60 ?_
      refine h_nil ?_
      obtain ⟨gz61, P⟩ := P.guard
      refine h_lcR2 P (fun Dl (acc : List Bool) (a : Unit) H' => ∃ B', Stp [] B56 H13 B' H' ∧ H13 Dl = none ∧ Mu K B' H' Dl (acc.map enc)) (fun Dl hD => ⟨_, Stp.newM w hD, hD, Mu.new w hD .nil⟩) ?_ ?_ gz61
      · rintro Dl62 N63 T64 x65 acc68 a69 H70 ⟨B71, s72, hD73, m74⟩ hlox65 hhix65 hz75 kk76 kn77 P
        have wj79 := w
        have sj78 := s72
        have n80 := st.nn hD73
        replace r55 := r55.mono s72.ex
        replace st := st.go s72 go0
        replace w := s72.ok
        refine h_gname ?_
        refine h_lcT rfl ?_
        refine h_op ?_
        refine h_op ?_
        refine h_var rfl ?_
        refine h_op ?_
        refine h_var rfl ?_
        refine h_c ?_
        refine h_I0 ?_
        obtain ⟨p81, xs82, hv, hs83, hr84⟩ := Rep.sq w r55
        cases hv
        obtain ⟨x85, hx86, P⟩ := P.ix
        obtain ⟨u87, hu, r88⟩ := RepL.atE hr84 hx86
        refine h_ixL hs83 hu ?_
        cases r88
        refine h_op ?_
        refine h_op ?_
        refine h_var rfl ?_
        refine h_var rfl ?_
        obtain ⟨p89, xs90, hv, hs91, hr92⟩ := Rep.sq w (r_found.mono st.ex)
        cases hv
        obtain ⟨x93, hx94, P⟩ := P.ix
        obtain ⟨u95, hu, r96⟩ := RepL.atE hr92 hx94
        refine h_ixL hs91 hu ?_
        refine h_c ?_
        obtain ⟨p97, xs98, rfl, hs99, hr100⟩ := Rep.st w r96
        obtain ⟨u101, hu, r102⟩ := RepL.at hr100 (i := 0) rfl
        refine h_ixT hs99 hu ?_
        cases r102
        refine h_I0 ?_
        refine h_app (b := (decide (x85 ≤ x93.a))) w m74 (Rep.bl _) hz75 (fun H103 s104 m74 => ?_)
        replace r55 := r55.mono s104.ex
        replace st := st.go s104 (go1 (.inr n80))
        replace sj78 := sj78.go s104 (go1 (.inr hD73))
        replace w := s104.ok
        exact kk76 (decide (x85 ≤ x93.a)) () _ ⟨_, sj78, hD73, m74⟩ P.ok
      · rintro Dl62 acc68 a69 H70 ⟨B71, s72, hD73, m74⟩ P
        have n105 := st.nn hD73
        replace r55 := r55.mono s72.ex
        replace st := st.go s72 go0
        replace w := s72.ok
        replace P := P.un2
        obtain ⟨B110, e106, k107, g108, r109⟩ := Mu.keep m74
        replace st := g108 _ _ _ st w0 n105
        replace r55 := r55.mono e106
        replace w := st.ok
        replace r109 : Rep K B110 (.ref Dl62) (enc acc68) := r109
        refine h_nil ?_
        obtain ⟨p111, xs112, hv, hs113, hr114⟩ := Rep.sq w r109
        cases hv
        refine h_all hs113 hr114 ?_
        exact P.ok _ _ _ st (Rep.bl _)
theorem ok_law {f : Addr} {fd : FuncData}  (F : Fun K "law" "law" s_law f fd) {f__law_boxes_in : Addr} {d__law_boxes_in : FuncData} (g__law_boxes_in : mg "_law_boxes_in" = some (.ref f__law_boxes_in)) (k__law_boxes_in : PySem.W.keepIn K (.ref f__law_boxes_in) = true) (b__law_boxes_in : L2.Binds K d__law_boxes_in ["_law_row"] []) (G__law_boxes_in : FnOk Pr wo K mg base CX0 3 f__law_boxes_in d__law_boxes_in ["_law_row"] (sp__law_boxes_in K)) {f__law_digit : Addr} {d__law_digit : FuncData} (g__law_digit : mg "_law_digit" = some (.ref f__law_digit)) (k__law_digit : PySem.W.keepIn K (.ref f__law_digit) = true) (b__law_digit : L2.Binds K d__law_digit ["_law_state", "_law_base"] []) (G__law_digit : FnOk Pr wo K mg base CX0 1 f__law_digit d__law_digit ["_law_state", "_law_base"] (sp__law_digit K)) {f__law_apart : Addr} {d__law_apart : FuncData} (g__law_apart : mg "_law_apart" = some (.ref f__law_apart)) (k__law_apart : PySem.W.keepIn K (.ref f__law_apart) = true) (b__law_apart : L2.Binds K d__law_apart ["_law_found", "_law_row"] []) (G__law_apart : FnOk Pr wo K mg base CX0 3 f__law_apart d__law_apart ["_law_found", "_law_row"] (sp__law_apart K)) {f_boxes_in : Addr} {d_boxes_in : FuncData} (g_boxes_in : mg "boxes_in" = some (.ref f_boxes_in)) (k_boxes_in : PySem.W.keepIn K (.ref f_boxes_in) = true) (b_boxes_in : L2.Binds K d_boxes_in ["row"] []) (G_boxes_in : FnOk Pr wo K mg base CX0 7 f_boxes_in d_boxes_in ["row"] (sp_boxes_in K)) {f__law_refused : Addr} {d__law_refused : FuncData} (g__law_refused : mg "_law_refused" = some (.ref f__law_refused)) (k__law_refused : PySem.W.keepIn K (.ref f__law_refused) = true) (b__law_refused : L2.Binds K d__law_refused ["_law_row"] []) (G__law_refused : FnOk Pr wo K mg base CX0 5 f__law_refused d__law_refused ["_law_row"] (sp__law_refused K)) {f__law_thing : Addr} {d__law_thing : FuncData} (g__law_thing : mg "_law_thing" = some (.ref f__law_thing)) (k__law_thing : PySem.W.keepIn K (.ref f__law_thing) = true) (b__law_thing : L2.Binds K d__law_thing ["_law_state"] []) (G__law_thing : FnOk Pr wo K mg base CX0 3 f__law_thing d__law_thing ["_law_state"] (sp__law_thing K)) {f__law_odd_row : Addr} {d__law_odd_row : FuncData} (g__law_odd_row : mg "_law_odd_row" = some (.ref f__law_odd_row)) (k__law_odd_row : PySem.W.keepIn K (.ref f__law_odd_row) = true) (b__law_odd_row : L2.Binds K d__law_odd_row ["_law_state", "_law_row"] []) (G__law_odd_row : FnOk Pr wo K mg base CX0 2 f__law_odd_row d__law_odd_row ["_law_state", "_law_row"] (sp__law_odd_row K)) (bI_range : mg "range" = none) (bI_list : mg "list" = none) (bI_isinstance : mg "isinstance" = none) (bI_tuple : mg "tuple" = none) : FnOk Pr wo K mg base CX0 8 f fd ["_law_script"] (sp_law K) := by
  refine F.ok sc_law (fun vs H Q E h => ?_) (fun cdv A outer s H0 vs Q E hr h => ?_)
  · obtain ⟨_, _, _, _, rfl, _⟩ := h; rfl
  · obtain ⟨B0, v_script, a_script, w, rfl, r_script, P⟩ := h
    have w0 := w
    have hu := hu_of hr
    have hu64 := hu64_of hr
    have hu65 := hu65_of hr
    have hr1 : Room 1 _ := hr.mono (by decide)
    have hr2 : Room 2 _ := hr.mono (by decide)
    have hr3 : Room 3 _ := hr.mono (by decide)
    have hr5 : Room 5 _ := hr.mono (by decide)
    have hr7 : Room 7 _ := hr.mono (by decide)
    refine ⟨_, (pss_cons (ps_for PassesOwn.never rfl (pi_list (pe_op (r := rCatQ K) op_catQ (pe_slice (r := rSlQ K) sl_Q (pv 0) po_none (po_some pe_int)) (pe_lst (pa_cons pe_int (pa_cons pe_int pa_nil))))) (pg_name (i := 1) sc_law.nd rfl (by first | exact Or.inl rfl | exact Or.inr rfl)) (pss_cons (ps_set (i := 2) sc_law.nd rfl (by first | exact Or.inl rfl | exact Or.inr rfl) (pe_lst (pa_cons (pv 1) pa_nil)))
      (pss_cons (ps_set (i := 3) sc_law.nd rfl (by first | exact Or.inl rfl | exact Or.inr rfl) (pe_lst pa_nil))
      (pss_cons (ps_for PassesOwn.never rfl (pi_range1 (by rfl) bI_range (pa_cons (pe_call G__law_digit hr1 rfl g__law_digit k__law_digit b__law_digit .nil pass0 (pa_cons (pv 2) (pa_cons pe_int pa_nil))) pa_nil)) (pg_name (i := 4) sc_law.nd rfl (by first | exact Or.inl rfl | exact Or.inr rfl)) (pss_one (ps_set (i := 3) sc_law.nd rfl (by first | exact Or.inl rfl | exact Or.inr rfl) (pe_op (r := rCatQ K) op_catQ (pv 3) (pe_call G__law_thing hr3 rfl g__law_thing k__law_thing b__law_thing .nil pass0 (pa_cons (pv 2) pa_nil))))))
      (pss_cons (ps_set (i := 5) sc_law.nd rfl (by first | exact Or.inl rfl | exact Or.inr rfl) (pe_call G__law_boxes_in hr3 rfl g__law_boxes_in k__law_boxes_in b__law_boxes_in .nil pass0 (pa_cons (pv 3) pa_nil)))
      (pss_cons (ps_if (pt_not (pt_val (pe_call G__law_apart hr3 rfl g__law_apart k__law_apart b__law_apart .nil pass0 (pa_cons (pv 5) (pa_cons (pv 3) pa_nil))))) (pss_one (ps_ret pe_bl)) pss_nil)
      (pss_cons (ps_for PassesOwn.never rfl (pi_range1 (by rfl) bI_range (pa_cons pe_int pa_nil)) (pg_name (i := 6) sc_law.nd rfl (by first | exact Or.inl rfl | exact Or.inr rfl)) (pss_cons (ps_set (i := 7) sc_law.nd rfl (by first | exact Or.inl rfl | exact Or.inr rfl) (pe_callTy (r := rListY K) cr_list (by rfl) bI_list Y.boot_list (pa_cons (pv 3) pa_nil)))
      (pss_cons (ps_set (i := 8) sc_law.nd rfl (by first | exact Or.inl rfl | exact Or.inr rfl) (pe_call G_boxes_in hr7 rfl g_boxes_in k_boxes_in b_boxes_in .nil pass0 (pa_cons (pv 7) pa_nil)))
      (pss_cons (ps_if (PW.pt (pw_or (pt_not (pt_val (pe_callB (r := rIsi K) call_isi (by rfl) bI_isinstance PyProof.Rows.boot_isinstance (pa_cons (pv 8) (pa_cons (pe_bltn (v := .ty "list") (by rfl) bI_list Y.boot_list rfl) pa_nil))))) (pw_or (pt_cmpR (r := rNeD K) (op_neD hu64) (pv 8) (pv 5) (nomark _)) (pw_or1 (pt_cmpR (r := rNeD K) (op_neD hu64) (pv 7) (pv 3) (nomark _)))))) (pss_one (ps_ret pe_bl)) pss_nil)
      (pss_cons (ps_for PassesOwn.never rfl (pi_list (pv 8)) (pg_name (i := 9) sc_law.nd rfl (by first | exact Or.inl rfl | exact Or.inr rfl)) (pss_cons (ps_if (PW.pt (pw_or (pt_not (pt_val (pe_callB (r := rIsi K) call_isi (by rfl) bI_isinstance PyProof.Rows.boot_isinstance (pa_cons (pv 9) (pa_cons (pe_bltn (v := .ty "tuple") (by rfl) bI_tuple Y.boot_tuple rfl) pa_nil))))) (pw_or1 (pt_not (pt_val (pe_callB (r := rIsi K) call_isi (by rfl) bI_isinstance PyProof.Rows.boot_isinstance (pa_cons (pe_ix (r := rIxT K) ix_tup (pv 9) pe_int (fun _ _ => rfl)) (pa_cons (pe_bltn (v := .ty "list") (by rfl) bI_list Y.boot_list rfl) pa_nil)))))))) (pss_one (ps_ret pe_bl)) pss_nil)
      (pss_one (ps_expr (pe_bm PySem.F.plainAttrs_list PySem.F.slot_list_append PySem.F.type_list_append mt_append (pe_ix (r := rIxT K) ix_tup (pv 9) pe_int (fun _ _ => rfl)) (pa_cons pe_int pa_nil))))))
      (pss_cons (ps_expr (pe_bm0 PySem.F.plainAttrs_list PySem.F.slot_list_reverse PySem.F.type_list_reverse mt_reverse (pv 8)))
      (pss_one (ps_expr (pe_bm PySem.F.plainAttrs_list PySem.F.slot_list_append PySem.F.type_list_append mt_append (pv 8) (pa_cons pe_non pa_nil))))))))))
      (pss_one (ps_if (pt_not (pt_val (pe_call G__law_refused hr5 rfl g__law_refused k__law_refused b__law_refused .nil pass0 (pa_cons (pe_call G__law_odd_row hr2 rfl g__law_odd_row k__law_odd_row b__law_odd_row .nil pass0 (pa_cons (pv 2) (pa_cons (pv 3) pa_nil))) pa_nil)))) (pss_one (ps_ret pe_bl)) pss_nil)))))))))
      (pss_one (ps_ret pe_bl))), ?_⟩
    unfold m_law at P
    have st := Stp.refl (W := []) w
    refine h_seq ?_
    refine h_forE ?_
    refine h_op ?_
    refine h_sl ?_
    refine h_var rfl ?_
    refine h_nopart ?_
    refine h_part ?_
    refine h_c ?_
    refine h_isI ?_
    obtain ⟨p1, xs2, rfl, hs3, hr4⟩ := Bor.sq (r_script.step st)
    refine h_slQ hs3 ?_
    refine h_nwL w (ds := ((cutL a_script none (some 6))).map enc) (K := K) (hr4.cut none (some 6)) (fun p5 B6 H7 s8 r9 => ?_) 
    replace st := st.go s8 go0
    replace w := s8.ok
    replace r9 : Rep K B6 (.ref p5) (enc (cutL a_script none (some 6))) := r9
    refine h_lst ?_
    refine h_cons ?_
    refine h_c ?_
    refine h_cons ?_
    refine h_c ?_
    refine h_nil ?_
    refine h_newL w (ds := (([0, 1] : List Int)).map enc) (K := K) (.cons (Rep.int _) (.cons (Rep.int _) .nil)) (fun p10 B11 H12 s13 r14 => ?_) (by show 2 ≤ sizeLine; decide)
    replace r9 := r9.mono s13.ex
    replace st := st.go s13 go0
    replace w := s13.ok
    replace r14 : Rep K B11 (.ref p10) (enc ([0, 1] : List Int)) := r14
    obtain ⟨p15, xs16, hv, hs17, hr18⟩ := Rep.sq w r9
    cases hv
    obtain ⟨p19, xs20, hv, hs21, hr22⟩ := Rep.sq w r14
    cases hv
    obtain ⟨gd, P⟩ := P.guard
    refine h_cat hs17 hs21 (by have g := gd; simp only [hr18.length, hr22.length, List.length_map] at g ⊢; exact Nat.le_trans g (by decide)) ?_
    refine h_nwL w (ds := (((cutL a_script none (some 6)) ++ ([0, 1] : List Int))).map enc) (K := K) (RepL.cat hr18 hr22) (fun p23 B24 H25 s26 r27 => ?_) 
    replace st := st.go s26 go0
    replace w := s26.ok
    replace r27 : Rep K B24 (.ref p23) (enc ((cutL a_script none (some 6)) ++ ([0, 1] : List Int))) := r27
    obtain ⟨p28, xs29, hv, hb30, hr31⟩ := Rep.sqB r27
    cases hv
    have wj33 := w
    have sj32 := Stp.refl (W := []) w
    refine h_forL P (w.l hb30) hr31 (fun (a : Unit) σ' H' => ∃ (B' : Hp) (o__law_state : Option V) (o__law_row : Option V) (o__law_k : Option V) (o__law_due : Option V) (o__law_turn : Option V) (o__law_handed : Option V) (o__law_found : Option V) (o__law_one : Option V) (o__law_cell : Option V), Stp [] B24 H25 B' H' ∧ σ' = [some ((.ref p1)), o__law_cell, o__law_state, o__law_row, o__law_k, o__law_due, o__law_turn, o__law_handed, o__law_found, o__law_one]) ⟨_, _, _, _, _, _, _, _, _, _, sj32, rfl⟩ (fun _ _ _ j => ?_) ?_ ?_
    · obtain ⟨B43, o46, o47, o48, o49, o50, o51, o52, o53, o54, s45, rfl⟩ := j
      exact s45.ok.l (s45.ex.l hb30)
    · rintro N34 T35 x40 v41 a39 _ H44 ⟨B43, o46, o47, o48, o49, o50, o51, o52, o53, o54, s45, rfl⟩ r42 kk36 kr37 kb38 P
      replace st := st.go s45 go0
      replace w := s45.ok
      have sj32 := s45
      replace r42 := r42.mono sj32.ex
      cases r42
      refine h_gname ?_
      refine h_set ?_
      refine h_lst ?_
      refine h_cons ?_
      refine h_var rfl ?_
      refine h_nil ?_
      refine h_newM w (ds := (([x40] : List Int)).map enc) (K := K) (.cons (Rep.int _) .nil) (fun p55 H56 hn59 s57 m58 => ?_) (by show 1 ≤ sizeLine; decide)
      have n60 := st.nn hn59
      have n61 := sj32.nn hn59
      replace st := st.go s57 go0
      replace sj32 := sj32.go s57 go0
      replace w := s57.ok
      refine h_set ?_
      refine h_lst ?_
      refine h_nil ?_
      refine h_newL w (ds := (([] : List Int)).map enc) (K := K) .nil (fun p62 B63 H64 s65 r66 => ?_) (by show 0 ≤ sizeLine; decide)
      replace m58 := m58.step s65 nm0
      replace st := st.go s65 go0
      replace sj32 := sj32.go s65 go0
      replace w := s65.ok
      replace r66 : Rep K B63 (.ref p62) (enc ([] : List Int)) := r66
      refine h_seq ?_
      refine h_rng1 ?_
      refine h_cons ?_
      refine h_call ?_
      refine h_cons ?_
      refine h_var rfl ?_
      refine h_cons ?_
      refine h_c ?_
      refine h_nil ?_
      refine ⟨B63, p55, ([x40] : List Int), 10, w, rfl, m58, (P.bind).mono (fun x67 P => ?_) (fun _ z => z)⟩
      refine fun v71 B68 H69 s70 m58 r72 => ?_
      replace r66 := r66.mono s70.ex
      replace st := st.go s70 (go1 (.inr n60))
      replace sj32 := sj32.go s70 (go1 (.inr n61))
      replace w := s70.ok
      cases r72
      refine h_nil ?_
      obtain ⟨gz73, P⟩ := P.guard
      have wj75 := w
      have sj74 := Stp.refl (W := [p55]) w
      refine h_forR1 P gz73 (fun (a : (List Int) × (List Int)) σ' H' => ∃ (B' : Hp) (v0 : V) (o__law_k : Option V), Stp [p55] B68 H69 B' H' ∧ σ' = [some ((.ref p1)), some (.int x40), some ((.ref p55)), some v0, o__law_k, o49, o50, o51, o52, o53] ∧ Rep K B' v0 (enc a.1) ∧ Mu K B' H' p55 (a.2.map enc)) ⟨_, (.ref p62), _, sj74, rfl, r66, m58⟩ ?_ ?_
      · rintro N76 T77 x82 a81 _ H86 ⟨B85, v88, o90, s87, rfl, r89, m58⟩ hlox82 hhix82 kk78 kr79 kb80 P
        replace st := st.go s87 (go1 (.inr n60))
        replace sj32 := sj32.go s87 (go1 (.inr n61))
        replace w := s87.ok
        have sj74 := s87
        refine h_gname ?_
        refine h_set1 ?_
        refine h_op ?_
        refine h_var rfl ?_
        refine h_call ?_
        refine h_cons ?_
        refine h_var rfl ?_
        refine h_nil ?_
        refine ⟨B85, p55, a81.2, w, rfl, m58, (P.bind).mono (fun x91 P => ?_) (fun _ z => z)⟩
        refine fun v95 B92 H93 s94 m58 r96 => ?_
        replace r89 := r89.mono s94.ex
        replace st := st.go s94 (go1 (.inr n60))
        replace sj32 := sj32.go s94 (go1 (.inr n61))
        replace sj74 := sj74.go s94 (go1 (.inl (by simp)))
        replace w := s94.ok
        obtain ⟨p97, xs98, rfl, hs99, hr100⟩ := Rep.sq w r89
        obtain ⟨p101, xs102, rfl, hs103, hr104⟩ := Rep.sq w r96
        obtain ⟨gd, P⟩ := P.guard
        refine h_cat hs99 hs103 (by have g := gd; simp only [hr100.length, hr104.length, List.length_map] at g ⊢; exact Nat.le_trans g (by decide)) ?_
        refine h_nwL w (ds := ((a81.1 ++ x91.1)).map enc) (K := K) (RepL.cat hr100 hr104) (fun p105 B106 H107 s108 r109 => ?_) 
        replace m58 := m58.step s108 nm0
        replace r89 := r89.mono s108.ex
        replace st := st.go s108 go0
        replace sj32 := sj32.go s108 go0
        replace sj74 := sj74.go s108 go0
        replace w := s108.ok
        replace r109 : Rep K B106 (.ref p105) (enc (a81.1 ++ x91.1)) := r109
        refine h_nx ?_
        exact kk78 ((a81.1 ++ x91.1), x91.2) _ _ ⟨_, (.ref p105), _, sj74, rfl, r109, m58⟩ P.ok
      · rintro a110 _ H112 ⟨B111, v114, o116, s113, rfl, r115, m58⟩ P
        replace st := st.go s113 (go1 (.inr n60))
        replace sj32 := sj32.go s113 (go1 (.inr n61))
        replace w := s113.ok
        refine h_nx ?_
        refine h_set ?_
        refine h_call ?_
        refine h_cons ?_
        refine h_var rfl ?_
        refine h_nil ?_
        refine ⟨B111, v114, a110.1, w, rfl, r115, (P.bind).mono (fun x117 P => ?_) (fun _ z => z)⟩
        refine fun v121 B118 H119 s120 r122 => ?_
        replace m58 := m58.step s120 nm0
        replace r115 := r115.mono s120.ex
        replace st := st.go s120 go0
        replace sj32 := sj32.go s120 go0
        replace w := s120.ok
        refine h_seq <| h_if ?_
        refine h_tnot ?_
        refine h_tB ?_
        refine h_call ?_
        refine h_cons ?_
        refine h_var rfl ?_
        refine h_cons ?_
        refine h_var rfl ?_
        refine h_nil ?_
        refine ⟨B118, v121, x117, v114, a110.1, w, rfl, r122, r115, (P.bind).mono (fun x123 P => ?_) (fun _ z => z)⟩
        refine fun v127 B124 H125 s126 r128 => ?_
        replace m58 := m58.step s126 nm0
        replace r115 := r115.mono s126.ex
        replace r122 := r122.mono s126.ex
        replace st := st.go s126 go0
        replace sj32 := sj32.go s126 go0
        replace w := s126.ok
        cases r128
        refine h_bl ?_
        refine h_iteN (fun c1 => ?_) (fun c1 => ?_)
        · replace P := P.iteF c1
          refine h_ret ?_
          refine h_c ?_
          exact (kr37 _ P.ok) _ _ _ st (Rep.bl _)
        · replace P := P.iteT c1
          refine h_next ?_
          refine h_nx ?_
          refine h_seq ?_
          refine h_rng1 ?_
          refine h_cons ?_
          refine h_c ?_
          refine h_nil ?_
          have gz129 : (-(2 ^ 62) ≤ (2 : Int) ∧ (2 : Int) < 2 ^ 62) := by decide
          have wj131 := w
          have sj130 := Stp.refl (W := []) w
          refine h_forR1 P gz129 (fun (a : Unit) σ' H' => ∃ (B' : Hp) (o__law_handed : Option V) (o__law_found : Option V) (o__law_one : Option V) (o__law_turn : Option V), Stp [] B124 H125 B' H' ∧ σ' = [some ((.ref p1)), some (.int x40), some ((.ref p55)), some (v114), o116, some (v121), o__law_turn, o__law_handed, o__law_found, o__law_one]) ⟨_, _, _, _, _, sj130, rfl⟩ ?_ ?_
          · rintro N132 T133 x138 a137 _ H142 ⟨B141, o144, o145, o146, o147, s143, rfl⟩ hlox138 hhix138 kk134 kr135 kb136 P
            replace m58 := m58.step s143 nm0
            replace r115 := r115.mono s143.ex
            replace r122 := r122.mono s143.ex
            replace st := st.go s143 go0
            replace sj32 := sj32.go s143 go0
            replace w := s143.ok
            have sj130 := s143
            refine h_gname ?_
            refine h_set ?_
            refine h_cb ?_
            refine h_cons ?_
            refine h_var rfl ?_
            refine h_nil ?_
            obtain ⟨p148, xs149, rfl, hs150, hr151⟩ := Rep.sq w r115
            refine h_listL hs150 ?_
            refine h_nwL w (ds := (a110.1).map enc) (K := K) hr151 (fun p152 B153 H154 s155 r156 => ?_) 
            replace m58 := m58.step s155 nm0
            replace r115 := r115.mono s155.ex
            replace r122 := r122.mono s155.ex
            replace st := st.go s155 go0
            replace sj32 := sj32.go s155 go0
            replace sj130 := sj130.go s155 go0
            replace w := s155.ok
            replace r156 : Rep K B153 (.ref p152) (enc a110.1) := r156
            refine h_set ?_
            refine h_call ?_
            refine h_cons ?_
            refine h_var rfl ?_
            refine h_nil ?_
            refine ⟨B153, (.ref p152), a110.1, w, rfl, r156, (P.bind).mono (fun x157 P => ?_) (fun _ z => z)⟩
            refine fun p163 B158 H159 s160 hn164 fx167 => ?_
            have m165 := fx167.mu
            have m58_s := m58
            have r115_s := r115
            have r122_s := r122
            have r156_s := r156
            have st_s := st
            have sj32_s := sj32
            have sj130_s := sj130
            have w_s := w
            have n168 := st.nn hn164
            have n169 := sj32.nn hn164
            have n170 := sj130.nn hn164
            have ne171 := Mu.ne m58 hn164
            replace m58 := m58.step s160 nm0
            replace r115 := r115.mono s160.ex
            replace r122 := r122.mono s160.ex
            replace r156 := r156.mono s160.ex
            replace st := st.go s160 go0
            replace sj32 := sj32.go s160 go0
            replace sj130 := sj130.go s160 go0
            replace w := s160.ok
            refine h_seq <| h_if ?_
            refine h_tor ?_
            refine h_tnot ?_
            refine h_tB ?_
            refine h_cb ?_
            refine h_cons ?_
            refine h_var rfl ?_
            refine h_cons ?_
            refine h_c ?_
            refine h_nil ?_
            obtain ⟨xs173, hv, hs174, hr175⟩ := Mu.sq m165
            refine isiL (t := "list") (l := x157.map enc) hs174 ?_
            refine h_bl ?_
            refine h_iteN (fun c1 => ?_) (fun c1 => ?_)
            · replace P := P.iteF c1
              refine h_iteT ?_
              refine h_ret ?_
              refine h_c ?_
              exact (kr37 _ (kr135 _ P.ok)) _ _ _ st (Rep.bl _)
            · replace P := P.iteT c1
              refine h_tor ?_
              refine h_test ?_
              refine h_op ?_
              refine h_var rfl ?_
              refine h_var rfl ?_
              obtain ⟨gd, P⟩ := P.guard
              obtain ⟨xs177, hv, hs178, hr179⟩ := Mu.sq m165
              refine h_neC (d := (enc x157)) (e := (enc x117)) (SqL.cp w hs178 hr179) (Rep.cp w r122) gd ?_
              refine h_bl ?_
              refine h_ite (fun c1 => ?_) (fun c1 => ?_)
              · replace P := P.iteT c1
                refine h_iteT ?_
                refine h_ret ?_
                refine h_c ?_
                exact (kr37 _ (kr135 _ P.ok)) _ _ _ st (Rep.bl _)
              · replace P := P.iteF c1
                refine h_test ?_
                refine h_op ?_
                refine h_var rfl ?_
                refine h_var rfl ?_
                obtain ⟨gd, P⟩ := P.guard
                refine h_neD (d := (enc a110.1)) (e := (enc a110.1)) w r156 r115 gd ?_
                refine h_bl ?_
                refine h_ite (fun c1 => ?_) (fun c1 => ?_)
                · replace P := P.iteT c1
                  refine h_ret ?_
                  refine h_c ?_
                  exact (kr37 _ (kr135 _ P.ok)) _ _ _ st (Rep.bl _)
                · replace P := P.iteF c1
                  refine h_next ?_
                  refine h_nx ?_
                  refine h_seq ?_
                  obtain ⟨gd, P⟩ := P.guard
                  have gd185 := gd
                  refine h_forE ?_
                  refine h_var rfl ?_
                  obtain ⟨xs180, M181, rv182, hl183, hM184⟩ := Rav.start s160 fx167 gd185
                  refine h_forRav w_s rv182 hl183 hM184 (fun o => [some ((.ref p1)), some (.int x40), some ((.ref p55)), some ((.ref p148)), o116, some (v121), some (.int x138), some ((.ref p152)), some ((.ref p163)), o]) ⟨o146, rfl⟩ ?_ ?_
                  · intro N t p a b zs o H2 ht hp hz kk
                    have wq : Ex H2 H2 := Ex.refl H2
                    have rp : Rep K H2 (.ref p) (enc zs) := .lst (SqL.of hp) (repL_ints zs)
                    have rt : Rep K H2 (.ref t) (enc (⟨a, b, zs⟩ : Ix3)) := .tup (SqT.of ht) (.cons (.int a) (.cons (.int b) (.cons rp .nil)))
                    refine h_gname ?_
                    refine h_seq ?_
                    refine h_if ?_
                    refine h_tor ?_
                    refine h_tnot ?_
                    refine h_tB ?_
                    refine h_cb (h_cons (h_var rfl (h_cons (h_c (h_nil (isi (t := "tuple") wq rt ?_))))))
                    refine h_bl ?_
                    rw [isA_tup3]
                    refine h_iteF ?_
                    refine h_tnot ?_
                    refine h_tB ?_
                    refine h_cb (h_cons (h_op (h_var rfl (h_c (h_ixT (SqT.of ht) (i := 2) (v := .ref p) rfl (h_cons (h_c (h_nil (isi (t := "list") wq rp ?_)))))))))
                    refine h_bl ?_
                    rw [isA_lst1]
                    refine h_iteF ?_
                    refine h_next ?_
                    refine h_nx ?_
                    refine h_drop ?_
                    refine h_bm ?_
                    refine h_op (h_var rfl (h_c (h_ixT (SqT.of ht) (i := 2) (v := .ref p) rfl ?_)))
                    refine h_bmR hp ?_
                    refine h_cons (h_c (h_nil ?_))
                    refine h_appR hp (by rw [List.length_map]; exact hz) ?_
                    have k2 := kk (some (.ref t))
                    rw [List.map_append] at k2
                    exact k2
                  · intro o H2 s2 hq2
                    refine h_nx ?_
                    refine h_seq ?_
                    refine h_drop ?_
                    refine h_bm0 ?_
                    refine h_var rfl ?_
                    refine h_bmR0 hq2 ?_
                    refine h_revRv hq2 s2 w_s hn164 fun H186 s188 e190 => ?_
                    refine h_nx ?_
                    refine h_drop ?_
                    refine h_bm ?_
                    refine h_var rfl ?_
                    refine h_bmR e190 ?_
                    refine h_cons (h_c (h_nil ?_))
                    refine h_appRv e190 (by rw [List.length_reverse, hl183]; omega) s188 w_s hn164 fun H187 s189 e191 => ?_
                    replace st := st_s.go s189 go0
                    replace sj32 := sj32_s.go s189 go0
                    replace sj130 := sj130_s.go s189 go0
                    replace w := s189.ok
                    replace m58 := m58_s.step s189 nm0
                    replace r115 := r115_s
                    replace r122 := r122_s
                    replace r156 := r156_s
                    refine h_nx ?_
                    exact kk134 () _ _ ⟨_, _, _, _, _, sj130, rfl⟩ P.ok
          · rintro a192 _ H194 ⟨B193, o196, o197, o198, o199, s195, rfl⟩ P
            replace m58 := m58.step s195 nm0
            replace r115 := r115.mono s195.ex
            replace r122 := r122.mono s195.ex
            replace st := st.go s195 go0
            replace sj32 := sj32.go s195 go0
            replace w := s195.ok
            refine h_nx ?_
            refine h_if ?_
            refine h_tnot ?_
            refine h_tB ?_
            refine h_call ?_
            refine h_cons ?_
            refine h_call ?_
            refine h_cons ?_
            refine h_var rfl ?_
            refine h_cons ?_
            refine h_var rfl ?_
            refine h_nil ?_
            refine ⟨B193, p55, a110.2, v114, a110.1, w, rfl, m58, r115, (P.bind).mono (fun x200 P => ?_) (fun _ z => z)⟩
            refine fun v204 B201 H202 s203 m58 r205 => ?_
            replace r115 := r115.mono s203.ex
            replace r122 := r122.mono s203.ex
            replace st := st.go s203 (go1 (.inr n60))
            replace sj32 := sj32.go s203 (go1 (.inr n61))
            replace w := s203.ok
            refine h_nil ?_
            refine ⟨B201, v204, x200.1, w, rfl, r205, (P.bind).mono (fun x206 P => ?_) (fun _ z => z)⟩
            refine fun v210 B207 H208 s209 r211 => ?_
            replace m58 := m58.step s209 nm0
            replace r115 := r115.mono s209.ex
            replace r122 := r122.mono s209.ex
            replace r205 := r205.mono s209.ex
            replace st := st.go s209 go0
            replace sj32 := sj32.go s209 go0
            replace w := s209.ok
            cases r211
            refine h_bl ?_
            refine h_iteN (fun c1 => ?_) (fun c1 => ?_)
            · replace P := P.iteF c1
              refine h_ret ?_
              refine h_c ?_
              exact (kr37 _ P.ok) _ _ _ st (Rep.bl _)
            · replace P := P.iteT c1
              refine h_next ?_
              refine h_nx ?_
              exact kk36 () _ _ ⟨_, _, _, _, _, _, _, _, _, _, sj32, rfl⟩ P.ok
    · rintro a212 _ H214 ⟨B213, o216, o217, o218, o219, o220, o221, o222, o223, o224, s215, rfl⟩ P
      replace st := st.go s215 go0
      replace w := s215.ok
      refine h_nx ?_
      refine h_ret ?_
      refine h_c ?_
      exact P.ok _ _ _ st (Rep.bl _)
end
end A
set_option Elab.async false
set_option linter.all false
set_option maxRecDepth 100000
set_option maxHeartbeats 2000000
namespace Y
open PySem PySem.Spec PyProof.Rows L2
open Enc (enc)
/-! # plain mathematics over mirrors -/
/-- m gives a value, and φ of it -/
def Ok {α : Type} (m : Res α) (φ : α → Prop) : Prop := ∃ a, m = .ok a ∧ φ a
section
variable {α β : Type} {m : Res α} {φ φ' : α → Prop} {k : α → Res β} {ψ : β → Prop} {a : α} {c : Bool} {i : Int} {l : List α}
theorem Ok.pure (h : φ a) : Ok (.ok a) φ := ⟨a, rfl, h⟩
theorem Ok.bind (h : Ok m φ) (hk : ∀ a, φ a → Ok (k a) ψ) : Ok (m.bind k) ψ := by
  obtain ⟨a, e, p⟩ := h
  rw [e]
  exact hk a p
theorem Ok.bindE (e : m = .ok a) (h : Ok (k a) ψ) : Ok (m.bind k) ψ := by rw [e]; exact h
theorem Ok.mono (h : Ok m φ) (hk : ∀ a, φ a → φ' a) : Ok m φ' := by
  obtain ⟨a, e, p⟩ := h
  exact ⟨a, e, hk a p⟩
theorem Ok.ite {m m' : Res α} (h1 : c = true → Ok m φ) (h2 : c = false → Ok m' φ) : Ok (if c = true then m else m') φ := by
  cases c
  · rw [if_neg Bool.false_ne_true]; exact h2 rfl
  · rw [if_pos rfl]; exact h1 rfl
theorem Ok.iteT {m m' : Res α} (hc : c = true) (h : Ok m φ) : Ok (if c = true then m else m') φ := by
  rw [if_pos hc]; exact h
theorem Ok.iteF {m m' : Res α} (hc : c = false) (h : Ok m' φ) : Ok (if c = true then m else m') φ := by
  rw [hc, if_neg Bool.false_ne_true]; exact h
theorem Ok.guard {p : Prop} [Decidable p] (hp : p) (h : Ok m φ) : Ok (guardR p m) φ := by
  unfold guardR; rw [if_pos hp]; exact h
theorem Ok.lt {d : α} (h : Ok (k d) ψ) : Ok (Y.lt d k) ψ := h
theorem Ok.noErr (h : Ok m φ) : Ok m.noErr φ := by
  obtain ⟨a, e, p⟩ := h
  exact ⟨a, by rw [e]; rfl, p⟩
theorem atI_in (h0 : 0 ≤ i) (h1 : i < (l.length : Int)) : ∃ x, atI l i = some x ∧ l[i.toNat]? = some x ∧ x ∈ l := by
  have h2 : i.toNat < l.length := by omega
  have e : ixN l.length i = some i.toNat := by unfold ixN; rw [if_pos h0, if_pos h1]
  refine ⟨l[i.toNat], ?_, List.getElem?_eq_getElem h2, List.getElem_mem h2⟩
  unfold atI
  rw [e]
  exact List.getElem?_eq_getElem h2
theorem Ok.ix (h0 : 0 ≤ i) (h1 : i < (l.length : Int)) (h : ∀ x, x ∈ l → l[i.toNat]? = some x → Ok (k x) ψ) : Ok ((ixR l i).bind k) ψ := by
  obtain ⟨x, e, e2, m⟩ := atI_in h0 h1
  unfold ixR
  rw [e]
  exact h x m e2
theorem Ok.ixs {x : α} (e : ixR l i = .ok x) (h : Ok (k x) ψ) : Ok ((ixR l i).bind k) ψ := by rw [e]; exact h
/-- an item of a written list -/
theorem Ok.ixm (h0 : 0 ≤ i) (h1 : i < (l.length : Int)) (h : ∀ x, x ∈ l → Ok (k x) ψ) : Ok ((ixR l i).bind k) ψ := Ok.ix h0 h1 fun x m _ => h x m
/-- a loop that keeps I and ends by itself -/
theorem Ok.for {S R : Type} {f : α → S → Res (Fl S R)} (I : S → Prop) (hf : ∀ x s, x ∈ l → I s → Ok (f x s) fun r => ∃ s', r = .nx s' ∧ I s') : ∀ {s : S}, I s → Ok (forR l s f) fun r => ∃ s', r = .nx s' ∧ I s' := by
  induction l with
  | nil => intro s h; exact ⟨_, rfl, s, rfl, h⟩
  | cons x xs ih =>
    intro s h
    refine Ok.bind (hf x s List.mem_cons_self h) ?_
    rintro r ⟨s', rfl, h'⟩
    exact ih (fun y s m h => hf y s (List.mem_cons_of_mem _ m) h) h'
/-- a comprehension: each turn gives a good thing and keeps I -/
theorem Ok.compL {S R : Type} {f : α → S → Res (Option R × S)} (I : S → Prop) (G : R → Prop) (hf : ∀ x s, x ∈ l → I s → Ok (f x s) fun r => I r.2 ∧ ∀ b, r.1 = some b → G b) : ∀ {s : S}, I s → Ok (compL l s f) fun r => I r.2 ∧ ∀ b ∈ r.1, G b := by
  induction l with
  | nil => intro s h; exact ⟨_, rfl, h, fun _ m => nomatch m⟩
  | cons x xs ih =>
    intro s h
    refine Ok.bind (hf x s List.mem_cons_self h) ?_
    rintro ⟨o, s'⟩ ⟨h', g⟩
    refine Ok.bind (ih (fun y s m h => hf y s (List.mem_cons_of_mem _ m) h) h') ?_
    rintro ⟨bs, s2⟩ ⟨h2, g2⟩
    refine ⟨_, rfl, h2, fun b m => ?_⟩
    cases o with
    | none => exact g2 b m
    | some b0 =>
      rcases List.mem_cons.mp m with e | m
      · rw [e]; exact g b0 rfl
      · exact g2 b m
theorem Ok.comp {S R : Type} {f : α → S → Res (Option R × S)} {s : S} (hl : l.length ≤ 1000000) (I : S → Prop) (G : R → Prop) (hf : ∀ x s, x ∈ l → I s → Ok (f x s) fun r => I r.2 ∧ ∀ b, r.1 = some b → G b) (h : I s) : Ok (compR l s f) fun r => I r.2 ∧ ∀ b ∈ r.1, G b := Ok.guard hl (Ok.compL I G hf h)
/-- .. and no more things than turns -/
theorem Ok.compLen {S R : Type} {f : α → S → Res (Option R × S)} {s : S} (hl : l.length ≤ 1000000) (I : S → Prop) (G : R → Prop) (hf : ∀ x s, x ∈ l → I s → Ok (f x s) fun r => I r.2 ∧ ∀ b, r.1 = some b → G b) (h : I s) : Ok (compR l s f) fun r => I r.2 ∧ (∀ b ∈ r.1, G b) ∧ r.1.length ≤ l.length := by
  refine Ok.guard hl ?_
  clear hl
  induction l generalizing s with
  | nil => exact ⟨_, rfl, h, (fun _ m => nomatch m), Nat.le_refl _⟩
  | cons x xs ih =>
    refine Ok.bind (hf x s List.mem_cons_self h) ?_
    rintro ⟨o, s'⟩ ⟨h', g⟩
    refine Ok.bind (ih (fun y s m h => hf y s (List.mem_cons_of_mem _ m) h) h') ?_
    rintro ⟨bs, s2⟩ ⟨h2, g2, g3⟩
    refine ⟨_, rfl, h2, fun b m => ?_, ?_⟩
    · cases o with
      | none => exact g2 b m
      | some b0 =>
        rcases List.mem_cons.mp m with e | m
        · rw [e]; exact g b0 rfl
        · exact g2 b m
    · cases o with
      | none => exact Nat.le_succ_of_le g3
      | some b0 => exact Nat.succ_le_succ g3
end
theorem log2_small {n b : Nat} (h : n < 2 ^ b) (h0 : 0 < b) : n.log2 < b := PySem.Flt.log2_lt_of h0 h
theorem mulW {i j : Int} {a b : Nat} (ha : i.natAbs < 2 ^ a) (hb : j.natAbs < 2 ^ b) (h0 : 0 < a := by decide) (h1 : 0 < b := by decide) (h : a + b ≤ 1000000 := by decide) : CMulW i j := wide_mul ha hb h0 h1 h
theorem divW {i j : Int} {b : Nat} (h : 0 < j) (hb : j.natAbs < 2 ^ b) (h0 : 0 < b := by decide) (h9 : b ≤ 9000 := by decide) : CDivW i j := wide_div h hb h0 h9
theorem cutL_mem {α : Type} {l : List α} {lo hi : Option Int} {x : α} (h : x ∈ cutL l lo hi) : x ∈ l := List.mem_of_mem_drop (List.mem_of_mem_take h)
theorem cutL_len {α : Type} {l : List α} {lo hi : Option Int} : (cutL l lo hi).length ≤ l.length := by
  unfold cutL
  rw [List.length_take, List.length_drop]
  omega
mutual
theorem eqv_refl : ∀ d : D, flatD d = true → PyData.eqv (pyD d) (pyD d) = true
  | .non, _ => rfl
  | .bl b, _ => by show (b == b) = true; simp
  | .int i, _ => by show (i == i) = true; simp
  | .str x, _ => by show (x == x) = true; simp
  | .lst ds, h => eqvs_refl ds h
  | .tup ds, h => eqvs_refl ds h
  | .dic _, h => nomatch h
  | .obj _ _, h => nomatch h
theorem eqvs_refl : ∀ ds : List D, flatDs ds = true → PyData.eqvAll (pyDs ds) (pyDs ds) = true
  | [], _ => rfl
  | d :: ds, h => by
    have h' : (flatD d && flatDs ds) = true := h
    rw [Bool.and_eq_true] at h'
    show (PyData.eqv (pyD d) (pyD d) && PyData.eqvAll (pyDs ds) (pyDs ds)) = true
    rw [eqv_refl d h'.1, eqvs_refl ds h'.2]
    rfl
end
theorem eqD_refl {d : D} (h : flatD d = true) : eqD d d = true := eqv_refl d h
theorem flat_ints : ∀ l : List Int, flatDs (l.map enc) = true
  | [] => rfl
  | i :: l => by show (flatD (.int i) && flatDs (l.map enc)) = true; rw [flat_ints l]; rfl

mutual
/-- data that may be compared: no dict, texts plain, not deep -/
def eqOk (n : Nat) : D → Bool
  | .lst ds => match n with | 0 => false | n + 1 => eqOks n ds
  | .tup ds => match n with | 0 => false | n + 1 => eqOks n ds
  | .dic _ => false
  | .obj _ _ => false
  | .str x => PyData.strOk x
  | _ => true
def eqOks (n : Nat) : List D → Bool
  | [] => true
  | d :: ds => eqOk n d && eqOks n ds
end
mutual
theorem eqOk_flat : ∀ (d : D) (n : Nat), eqOk n d = true → flatD d = true ∧ (pyD d).canLay0 = true ∧ (pyD d).depth ≤ n
  | .non, _, _ => ⟨rfl, rfl, Nat.zero_le _⟩
  | .bl _, _, _ => ⟨rfl, rfl, Nat.zero_le _⟩
  | .int _, _, _ => ⟨rfl, rfl, Nat.zero_le _⟩
  | .str _, _, h => ⟨rfl, h, Nat.zero_le _⟩
  | .lst ds, n + 1, h => let ⟨a, b, c⟩ := eqOks_flat ds n h; ⟨a, b, Nat.succ_le_succ c⟩
  | .tup ds, n + 1, h => let ⟨a, b, c⟩ := eqOks_flat ds n h; ⟨a, b, Nat.succ_le_succ c⟩
  | .lst _, 0, h => nomatch h
  | .tup _, 0, h => nomatch h
  | .dic _, _, h => nomatch h
  | .obj _ _, _, h => nomatch h
theorem eqOks_flat : ∀ (ds : List D) (n : Nat), eqOks n ds = true → flatDs ds = true ∧ PyData.canLayAll0 (pyDs ds) = true ∧ PyData.depthAll (pyDs ds) ≤ n
  | [], _, _ => ⟨rfl, rfl, Nat.zero_le _⟩
  | d :: ds, n, h => by
    have h' : (eqOk n d && eqOks n ds) = true := h
    rw [Bool.and_eq_true] at h'
    obtain ⟨a, b, c⟩ := eqOk_flat d n h'.1
    obtain ⟨a', b', c'⟩ := eqOks_flat ds n h'.2
    refine ⟨?_, ?_, ?_⟩
    · show (flatD d && flatDs ds) = true; rw [a, a']; rfl
    · show (PyData.canLay0 (pyD d) && PyData.canLayAll0 (pyDs ds)) = true; rw [b, b']; rfl
    · exact Nat.max_le.mpr ⟨c, c'⟩
end
theorem okEq_of {d e : D} (h : eqOk 20 d = true) (h' : eqOk 20 e = true) : okEq d e := by
  obtain ⟨a, b, c⟩ := eqOk_flat d 20 h
  obtain ⟨a', b', c'⟩ := eqOk_flat e 20 h'
  refine ⟨a, a', ?_, ?_⟩
  · unfold SeqAt.shaped; rw [b, decide_eq_true (Nat.le_trans c (by decide))]; rfl
  · unfold SeqAt.shaped; rw [b', decide_eq_true (Nat.le_trans c' (by decide))]; rfl
theorem eqOk_ints : ∀ (l : List Int) (n : Nat), eqOks n (l.map enc) = true
  | [], _ => rfl
  | i :: l, n => by show (eqOk n (.int i) && eqOks n (l.map enc)) = true; rw [eqOk_ints l n]; rfl
/-- a comprehension without a state whose turns give values -/
theorem compL_map {α β : Type} {f : α → Unit → Res (Option β × Unit)} {g : α → β} : ∀ {l : List α}, (∀ x ∈ l, f x () = .ok (some (g x), ())) → compL l () f = .ok (l.map g, ())
  | [], _ => rfl
  | x :: xs, h => by
    unfold compL
    rw [h x List.mem_cons_self]
    show ((compL xs () f).bind fun q => .ok (g x :: q.1, q.2)) = _
    rw [compL_map fun y m => h y (List.mem_cons_of_mem _ m)]
    rfl
theorem compR_map {α β : Type} {f : α → Unit → Res (Option β × Unit)} {g : α → β} {l : List α} (hl : l.length ≤ 1000000) (h : ∀ x ∈ l, f x () = .ok (some (g x), ())) : compR l () f = .ok (l.map g, ()) := by
  unfold compR guardR
  rw [if_pos hl, compL_map h]
def smallD (d : D) : Prop := match d with | .lst ds => ds.length ≤ 1000000 | _ => True
end Y

set_option Elab.async false
set_option linter.all false
set_option maxRecDepth 100000
set_option maxHeartbeats 2000000
namespace A
open PySem PySem.Spec PyProof.Rows L2 Y
open Y.Enc (enc)
/-- a state of draws -/
def Gd (st : List Int) : Prop := st.length = 1 ∨ st.length = 3
theorem setR_in {α : Type} {l : List α} {i : Int} {x : α} (h0 : 0 ≤ i) (h1 : i < (l.length : Int)) : setR l i x = .ok (l.set i.toNat x) := by
  unfold setR
  have e : ixN l.length i = some i.toNat := by unfold ixN; rw [if_pos h0, if_pos h1]
  rw [e]
theorem Ok.set {α β : Type} {l : List α} {i : Int} {x : α} {k : List α → Res β} {ψ : β → Prop} (h0 : 0 ≤ i) (h1 : i < (l.length : Int)) (h : ∀ l', l'.length = l.length → Ok (k l') ψ) : Ok ((setR l i x).bind k) ψ := by
  rw [setR_in h0 h1]
  exact h _ (List.length_set ..)
theorem digit_ok {st : List Int} {b : Int} (h : Gd st) (hb : 0 < b) (hb2 : b.natAbs < 2 ^ 4000) : Ok (l_digit st b) fun r => (0 ≤ r.1 ∧ r.1 < b) ∧ r.2.length = 3 := by
  unfold l_digit
  refine Ok.bind (φ := fun l => l.length = 3) (Ok.ite (fun c => ?_) (fun c => ?_)) fun l hl => ?_
  · have e : st.length = 1 := by have := of_decide_eq_true c; omega
    refine Ok.ix (by decide) (by omega) fun x _ _ => Ok.guard (by simp [e]) (Ok.pure (by simp [e]))
  · have e : ¬ (st.length : Int) = 1 := of_decide_eq_false c
    refine Ok.pure ?_
    rcases h with h | h
    · exact absurd (by omega) e
    · exact h
  refine Ok.ix (by decide) (by omega) fun x _ _ => Ok.ite (fun c => ?_) (fun c => ?_)
  · refine Ok.ix (by decide) (by omega) fun y _ _ => Ok.guard hb (Ok.lt (Ok.ix (by decide) (by omega) fun z _ _ => Ok.guard (divW hb hb2) (Ok.set (by decide) (by omega) fun l' e => Ok.pure ⟨⟨Int.emod_nonneg _ (Int.ne_of_gt hb), Int.emod_lt_of_pos _ hb⟩, e.trans hl⟩)))
  · refine Ok.ix (by decide) (by omega) fun y _ _ => Ok.set (by decide) (by omega) fun l' e => Ok.ix (by decide) (by omega) fun z _ _ => Ok.ix (by decide) (by omega) fun u _ _ => Ok.lt ?_
    generalize hn : (((z + 7919 * u) + 1) * 48271) % 2147483647 = n
    have hn1 : 0 ≤ n ∧ n < 2147483647 := by subst hn; exact ⟨Int.emod_nonneg _ (by decide), Int.emod_lt_of_pos _ (by decide)⟩
    refine Ok.guard (mulW (a := 32) (b := 32) (by omega) (by omega)) (Ok.lt ?_)
    generalize hm : (n * (n / 1009 + 69621)) % 2147483647 = m
    have hm1 : 0 ≤ m ∧ m < 2147483647 := by subst hm; exact ⟨Int.emod_nonneg _ (by decide), Int.emod_lt_of_pos _ (by decide)⟩
    refine Ok.guard (mulW (a := 32) (b := 32) (by omega) (by omega)) (Ok.guard hb (Ok.pure ⟨⟨Int.emod_nonneg _ (Int.ne_of_gt hb), Int.emod_lt_of_pos _ hb⟩, e.trans hl⟩))
theorem gd3 {st : List Int} (h : st.length = 3) : Gd st := .inr h
/-- a draw -/
theorem dg {β : Type} {st : List Int} {b : Int} {k : Int × List Int → Res β} {ψ : β → Prop} (h : Gd st) (hb : 0 < b) (hb2 : b.natAbs < 2 ^ 4000) (hk : ∀ x s, 0 ≤ x → x < b → s.length = 3 → Ok (k (x, s)) ψ) : Ok ((l_digit st b).bind k) ψ :=
  Ok.bind (digit_ok h hb hb2) fun r p => hk r.1 r.2 p.1.1 p.1.2 p.2
theorem big {b : Int} {n : Nat} (h : b.natAbs < 2 ^ n) (hn : n ≤ 4000) : b.natAbs < 2 ^ 4000 := Nat.lt_of_lt_of_le h (Nat.pow_le_pow_right (by decide) hn)
theorem bg {b : Int} (h : b.natAbs < 18446744073709551616) : b.natAbs < 2 ^ 4000 := big (n := 64) h (by decide)
end A

set_option Elab.async false
set_option linter.all false
set_option maxRecDepth 100000
set_option maxHeartbeats 2000000
namespace A
open PySem PySem.Spec PyProof.Rows L2 Y
open Y.Enc (enc)
/-! # rows of bytes -/
def isBytes (d : D) : Bool := match d with
  | .lst ds => ds.all fun d => isWhole d 0 255
  | _ => false
theorem is_bytes_ok {d : D} (h : smallD d) : m_is_bytes d = .ok (isBytes d) := by
  unfold m_is_bytes
  cases d with
  | lst ds =>
    rw [if_pos (show isA "list" (.lst ds) = true from (by decide +kernel : isS "list" "list" = true))]
    show ((compR ds () _).bind _) = _
    rw [compR_map (g := fun x => isWhole x 0 255) h (fun x _ => rfl)]
    show Res.ok ((ds.map fun x => isWhole x 0 255).all id) = _
    rw [List.all_map]
    rfl
  | _ => rfl
theorem small_ints {l : List Int} (h : l.length ≤ 1000000) : smallD (enc l) := by show (l.map enc).length ≤ 1000000; rw [List.length_map]; exact h
def Byt (i : Int) : Prop := 0 ≤ i ∧ i ≤ 255
theorem bytes_ints {l : List Int} (h : ∀ b ∈ l, Byt b) : isBytes (enc l) = true := by
  show (l.map enc).all (fun d => isWhole d 0 255) = true
  rw [List.all_map, List.all_eq_true]
  intro b m
  obtain ⟨h0, h1⟩ := h b m
  show (decide (0 ≤ b) && decide (b ≤ 255)) = true
  rw [decide_eq_true h0, decide_eq_true h1]; rfl
theorem bytes_three {a b : List Int} {x : D} (ha : ∀ i ∈ a, Byt i) (hb : ∀ i ∈ b, Byt i) : isBytes (enc (((a.map enc : List D) ++ ([x] : List D)) ++ (b.map enc : List D))) = isWhole x 0 255 := by
  have e1 : ∀ {l : List Int}, (∀ i ∈ l, Byt i) → (l.map enc : List D).all (fun d => isWhole d 0 255) = true := fun {l} h => bytes_ints h
  show (List.map (fun d : D => d) (((a.map enc : List D) ++ [x]) ++ (b.map enc : List D))).all (fun d => isWhole d 0 255) = _
  rw [List.map_id', List.all_append, List.all_append, e1 ha, e1 hb]
  simp
theorem eqOk_row (l : List Int) : eqOk 20 (enc l) = true := eqOk_ints l 19
theorem ok_rows (l m : List Int) : okEq (enc l) (enc m) := okEq_of (eqOk_row l) (eqOk_row m)
theorem eqs_int : ∀ (l m : List Int), PyData.eqvAll (pyDs (l.map enc)) (pyDs (m.map enc)) = decide (l = m)
  | [], [] => rfl
  | [], _ :: _ => rfl
  | _ :: _, [] => rfl
  | x :: l, y :: m => by
    show (decide (x = y) && PyData.eqvAll (pyDs (l.map enc)) (pyDs (m.map enc))) = _
    rw [eqs_int l m, ← Bool.decide_and]
    exact decide_eq_decide.mpr ⟨fun h => by rw [h.1, h.2], fun h => by cases h; exact ⟨rfl, rfl⟩⟩
/-- rows are compared thing by thing -/
theorem eq_rows (l m : List Int) : eqD (enc l) (enc m) = decide (l = m) := eqs_int l m
theorem eq_row (l : List Int) : eqD (enc l) (enc l) = true := by rw [eq_rows]; simp
theorem sure_row {l : List Int} (hl : l.length ≤ 1000000) (h : ∀ b ∈ l, Byt b) : m_sure_row (enc l) = .ok () := by
  unfold m_sure_row
  rw [is_bytes_ok (small_ints hl), bytes_ints h]
  rfl
theorem no_row {d : D} (hd : smallD d) (h : isBytes d = false) : m_sure_row d = .err ⟨"NoBytes", []⟩ := by
  unfold m_sure_row
  rw [is_bytes_ok hd, h]
  rfl
theorem rngI_len' (n : Int) : (rngI 0 n).length = n.toNat := by unfold rngI; simp
theorem bytes_l {st : List Int} {n : Int} (h : Gd st) (hn : 0 ≤ n) (hn2 : n ≤ 100000) : Ok (l_bytes st n) fun r => (∀ b ∈ r.1, Byt b) ∧ r.1.length = n.toNat ∧ r.2.length = 3 := by
  unfold l_bytes
  refine dg h (by decide) (bg (by decide)) fun x1 s1 a1 b1 h1 => Ok.guard (by omega) ?_
  suffices q : Ok (forR (rngI 0 n) ((s1, ([] : List Int)) : List Int × List Int) (fun x23 (a22 : (List Int) × (List Int)) => (l_digit a22.1 256).bind fun x31 => (ixR ([0, 0, 1, 2, 255, x31.1] : List Int) (x31.1 % 6)).bind fun x46 => (ixR ([x31.1, (x31.1 % 3), x46] : List Int) x1).bind fun x59 => guardR (a22.2.length < 1000000) <| (.ok (.nx (x31.2, (a22.2 ++ [x59]))) : Res (Fl (List Int × List Int) (List Int × List Int))))) fun r => ∃ s', r = .nx s' ∧ s'.1.length = 3 ∧ (∀ b ∈ s'.2, Byt b) ∧ s'.2.length = 0 + (rngI 0 n).length by
    refine Ok.bind q ?_
    rintro _ ⟨s', rfl, p1, p2, p3⟩
    exact Ok.pure ⟨p2, by rw [p3, rngI_len']; omega, p1⟩
  have hlen : 0 + (rngI 0 n).length ≤ 100000 := by rw [rngI_len']; omega
  have main : ∀ (xs : List Int) (s : List Int × List Int) (i : Nat), i + xs.length ≤ 100000 → s.1.length = 3 → (∀ b ∈ s.2, Byt b) → s.2.length = i → Ok (forR xs s (fun x23 (a22 : (List Int) × (List Int)) => (l_digit a22.1 256).bind fun x31 => (ixR ([0, 0, 1, 2, 255, x31.1] : List Int) (x31.1 % 6)).bind fun x46 => (ixR ([x31.1, (x31.1 % 3), x46] : List Int) x1).bind fun x59 => guardR (a22.2.length < 1000000) <| (.ok (.nx (x31.2, (a22.2 ++ [x59]))) : Res (Fl (List Int × List Int) (List Int × List Int))))) fun r => ∃ s', r = .nx s' ∧ s'.1.length = 3 ∧ (∀ b ∈ s'.2, Byt b) ∧ s'.2.length = i + xs.length := by
    intro xs
    induction xs with
    | nil => exact fun s i _ p1 p2 p3 => Ok.pure ⟨s, rfl, p1, p2, p3⟩
    | cons x xs ih =>
      rintro ⟨s1, s2⟩ i hi p1 p2 p3
      have hi' : i + (xs.length + 1) ≤ 100000 := hi
      simp only at p1 p2 p3
      refine Ok.bind (φ := fun r => ∃ s', r = .nx s' ∧ s'.1.length = 3 ∧ (∀ b ∈ s'.2, Byt b) ∧ s'.2.length = i + 1) ?_ ?_
      · refine dg (gd3 p1) (by decide) (bg (by decide)) fun y s a b h3 => ?_
        refine Ok.ixm (by show 0 ≤ y % 6; omega) (by show y % 6 < 6; omega) fun z mz => Ok.ixm a1 b1 fun u mu => Ok.guard (by simp only; omega) (Ok.pure ⟨_, rfl, h3, fun v mv => ?_, by rw [List.length_append, p3]; rfl⟩)
        rcases List.mem_append.mp mv with mv | mv
        · exact p2 v mv
        · rw [List.mem_singleton.mp mv]
          simp only [List.mem_cons, List.not_mem_nil, or_false] at mz mu
          unfold Byt
          rcases mu with rfl | rfl | rfl
          · omega
          · omega
          · rcases mz with rfl | rfl | rfl | rfl | rfl | rfl <;> omega
      · rintro _ ⟨s', rfl, q1, q2, q3⟩
        have := ih s' (i + 1) (by omega) q1 q2 q3
        refine this.mono ?_
        rintro r ⟨s2, e, w1, w2, w3⟩
        exact ⟨s2, e, w1, w2, by rw [w3, List.length_cons]; omega⟩
  exact main _ _ 0 hlen h1 (fun _ m => nomatch m) rfl
/-- a thing that is no row of bytes -/
theorem odd_ok {st row : List Int} (h : Gd st) (hl : row.length ≤ 400000) (hr : ∀ b ∈ row, Byt b) : Ok (l_odd_row st row) fun r => (isBytes r.1 = false ∧ smallD r.1) ∧ r.2.length = 3 := by
  unfold l_odd_row
  refine dg h (by decide) (bg (by decide)) fun x1 s1 a1 b1 h1 => Ok.ite (fun _ => ?_) fun _ => ?_
  · refine dg (gd3 h1) (by decide) (bg (by decide)) fun x2 s2 a2 b2 h2 => Ok.ixm a2 b2 fun z m => Ok.pure ⟨?_, h2⟩
    simp only [List.mem_cons, List.not_mem_nil, or_false] at m
    rcases m with rfl | rfl | rfl | rfl | rfl | rfl | rfl <;> exact ⟨rfl, trivial⟩
  · refine dg (gd3 h1) (by decide) (bg (by decide)) fun x2 s2 a2 b2 h2 => Ok.ixm a2 b2 fun z m => ?_
    refine dg (gd3 h2) (by omega) (bg (by omega)) fun x3 s3 a3 b3 h3 => ?_
    have c1 := cutL_len (l := row) (lo := none) (hi := some x3)
    have c2 := cutL_len (l := row) (lo := some x3) (hi := none)
    refine Ok.guard (by simp only [List.length_map, List.length_singleton]; omega) (Ok.guard (by simp only [List.length_append, List.length_map, List.length_singleton]; omega) (Ok.pure ⟨⟨?_, ?_⟩, h3⟩))
    · rw [bytes_three (fun i m => hr i (cutL_mem m)) (fun i m => hr i (cutL_mem m))]
      simp only [List.mem_cons, List.not_mem_nil, or_false] at m
      rcases m with rfl | rfl | rfl | rfl | rfl | rfl | rfl | rfl | rfl | rfl <;> rfl
    · show (List.map enc _).length ≤ 1000000
      simp only [List.length_map, List.length_append, List.length_singleton]; omega
/-- the check of a row -/
def sumB (l : List Int) (n : Int) : Int := l.foldl (fun n b => (n * 257 + b) % 65521) n
theorem sumB_app (l m : List Int) (n : Int) : sumB (l ++ m) n = sumB m (sumB l n) := List.foldl_append
theorem sum_l : ∀ (l : List Int) (n : Int), l_sum l n = .ok (sumB l n)
  | [], _ => rfl
  | b :: l, n => by
    have e : l_sum (b :: l) n = l_sum l ((n * 257 + b) % 65521) := rfl
    rw [e, sum_l l]
    rfl
theorem byt_cut {l : List Int} {lo hi : Option Int} (h : ∀ b ∈ l, Byt b) : ∀ b ∈ cutL l lo hi, Byt b := fun b m => h b (cutL_mem m)
theorem byt_app {l m : List Int} (h : ∀ b ∈ l, Byt b) (h' : ∀ b ∈ m, Byt b) : ∀ b ∈ l ++ m, Byt b := fun b q => (List.mem_append.mp q).elim (h b) (h' b)
end A

set_option Elab.async false
set_option linter.all false
set_option maxRecDepth 100000
set_option maxHeartbeats 2000000
namespace A
open PySem PySem.Spec PyProof.Rows L2 Y
open Y.Enc (enc)
/-! # stuffed rows -/
def stL : Int → List Int → List Int
  | _, [] => []
  | n, b :: l => if (if b = 0 then n + 1 else 0) = 2 then b :: 2 :: stL 0 l else b :: stL (if b = 0 then n + 1 else 0) l
theorem st_two {n b : Int} {l : List Int} (h : (if b = 0 then n + 1 else 0) = 2) : stL n (b :: l) = b :: 2 :: stL 0 l := if_pos h
theorem st_one {n b : Int} {l : List Int} (h : (if b = 0 then n + 1 else 0) ≠ 2) : stL n (b :: l) = b :: stL (if b = 0 then n + 1 else 0) l := if_neg h
theorem nx01 {n b : Int} (h : n = 0 ∨ n = 1) (c : (if b = 0 then n + 1 else 0) ≠ 2) : (if b = 0 then n + 1 else 0) = 0 ∨ (if b = 0 then n + 1 else 0) = 1 := by
  by_cases hb : b = 0
  · rw [if_pos hb] at c ⊢
    omega
  · rw [if_neg hb]
    exact .inl rfl
theorem st_len : ∀ (l : List Int) (n : Int), (stL n l).length ≤ 2 * l.length
  | [], _ => Nat.le_refl _
  | b :: l, n => by
    have h := st_len l
    by_cases c : (if b = 0 then n + 1 else 0) = 2
    · rw [st_two c]
      have := h 0
      simp only [List.length_cons]
      omega
    · rw [st_one c]
      have := h (if b = 0 then n + 1 else 0)
      simp only [List.length_cons]
      omega
theorem st_byt : ∀ (l : List Int) (n : Int), (∀ b ∈ l, Byt b) → ∀ b ∈ stL n l, Byt b
  | [], _, _ => fun _ m => nomatch m
  | b :: l, n, h => fun x m => by
    have hb := h b List.mem_cons_self
    have hl := fun y m => h y (List.mem_cons_of_mem b m)
    by_cases c : (if b = 0 then n + 1 else 0) = 2
    · rw [st_two c] at m
      rcases List.mem_cons.mp m with rfl | m
      · exact hb
      · rcases List.mem_cons.mp m with rfl | m
        · exact ⟨by decide, by decide⟩
        · exact st_byt l 0 hl x m
    · rw [st_one c] at m
      rcases List.mem_cons.mp m with rfl | m
      · exact hb
      · exact st_byt l _ hl x m
theorem behind (n b : Int) : m_noughts_behind n b = .ok (if b = 0 then n + 1 else 0) := by
  unfold m_noughts_behind
  by_cases h : b = 0
  · rw [if_pos (decide_eq_true h), if_pos h]; rfl
  · rw [if_neg (by rw [decide_eq_false h]; decide), if_neg h]; rfl
theorem Ok.forM' {α β S R : Type} {g : β → α} {f : α → S → Res (Fl S R)} (I : List β → S → Prop) (hf : ∀ x xs s, I (x :: xs) s → Ok (f (g x) s) fun r => ∃ s', r = .nx s' ∧ I xs s') : ∀ {l : List β} {s : S}, I l s → Ok (forR (l.map g) s f) fun r => ∃ s', r = .nx s' ∧ I [] s'
  | [], s, h => ⟨_, rfl, s, rfl, h⟩
  | x :: xs, s, h => by
    refine Ok.bind (hf x xs s h) ?_
    rintro r ⟨s', rfl, h'⟩
    exact Ok.forM' I hf h'
def SI (row : List Int) (xs : List Int) (s : Int × List Int) : Prop := (s.1 = 0 ∨ s.1 = 1) ∧ s.2 ++ stL s.1 xs = stL 0 row ∧ s.2.length + 2 * xs.length ≤ 2 * row.length
theorem SI.two {row xs : List Int} {n b : Int} {acc : List Int} (h : SI row (b :: xs) (n, acc)) (c : (if b = 0 then n + 1 else 0) = 2) : SI row xs (0, (acc ++ [b]) ++ [2]) := by
  obtain ⟨h1, h2, h3⟩ := h
  simp only at h1 h2 h3
  rw [st_two c] at h2
  refine ⟨.inl rfl, by rw [← h2]; simp, ?_⟩
  simp only [List.length_append, List.length_cons, List.length_nil] at h3 ⊢
  omega
theorem SI.one {row xs : List Int} {n b : Int} {acc : List Int} (h : SI row (b :: xs) (n, acc)) (c : (if b = 0 then n + 1 else 0) ≠ 2) : SI row xs ((if b = 0 then n + 1 else 0), acc ++ [b]) := by
  obtain ⟨h1, h2, h3⟩ := h
  simp only at h1 h2 h3
  rw [st_one c] at h2
  refine ⟨?_, by rw [← h2]; simp, ?_⟩
  · exact nx01 h1 c
  · simp only [List.length_append, List.length_cons, List.length_nil] at h3 ⊢
    omega
theorem SI.len {row xs : List Int} {n b : Int} {acc : List Int} (h : SI row (b :: xs) (n, acc)) : acc.length + 2 ≤ 2 * row.length := by
  have h3 : acc.length + 2 * (xs.length + 1) ≤ 2 * row.length := h.2.2
  omega
theorem SI.end {row : List Int} {s : Int × List Int} (h : SI row [] s) : s.2 = stL 0 row := by
  have := h.2.1
  rw [show stL s.1 [] = [] from rfl, List.append_nil] at this
  exact this
theorem ok_eq {α : Type} {m : Res α} {a : α} (h : Ok m fun r => r = a) : m = .ok a := by
  obtain ⟨r, e, rfl⟩ := h
  exact e
theorem stuffed_l {row : List Int} (hl : row.length ≤ 100000) : l_stuffed row = .ok (stL 0 row) := by
  refine ok_eq ?_
  unfold l_stuffed
  rw [← List.map_id row]
  refine Ok.bind (Ok.forM' (g := id) (SI row) ?_ ⟨.inl rfl, rfl, by simp⟩) ?_
  · rintro b xs ⟨n, acc⟩ hI
    have hlen := hI.len
    have hn : n = 0 ∨ n = 1 := hI.1
    have e : (n + 1) * b2z (decide (b = 0)) = if b = 0 then n + 1 else 0 := by
      by_cases hb : b = 0
      · rw [if_pos hb, decide_eq_true hb]; show (n + 1) * 1 = _; omega
      · rw [if_neg hb, decide_eq_false hb]; show (n + 1) * 0 = _; omega
    have cm : CMulW (n + 1) (b2z (decide (b = 0))) := mulW (a := 2) (b := 2) (by omega) (by cases decide (b = 0) <;> decide)
    refine Ok.guard (by simp only; omega) (Ok.guard cm (Ok.lt ?_))
    show Ok (if decide ((n + 1) * b2z (decide (b = 0)) = 2) = true then _ else _) _
    refine Ok.ite (fun c => ?_) fun c => ?_
    · exact Ok.guard (by simp only [List.length_append, List.length_singleton]; omega) (Ok.pure ⟨_, rfl, hI.two (by rw [← e]; exact of_decide_eq_true c)⟩)
    · exact Ok.pure ⟨_, rfl, by rw [show ((n, acc) : Int × List Int).1 = n from rfl, show id b = b from rfl, e]; exact hI.one (by rw [← e]; exact of_decide_eq_false c)⟩
  · rintro _ ⟨s, rfl, hI⟩
    rw [List.map_id]
    exact Ok.pure hI.end
theorem Ok.whileR {S R : Type} {f : S → Res (Fl S R)} (I : S → Prop) (Q : S → Prop) (Z : R → Prop) (μ : S → Nat) (hf : ∀ s, I s → Ok (f s) fun r => (∃ s', r = .nx s' ∧ I s' ∧ μ s' < μ s) ∨ (∃ s', r = .bk s' ∧ Q s') ∨ ∃ v, r = .rt v ∧ Z v) : ∀ (n : Nat) {s : S}, μ s < n → I s → Ok (Y.whileR n s f) fun r => (∃ s', r = .bk s' ∧ Q s') ∨ ∃ v, r = .rt v ∧ Z v
  | 0, s, h, _ => absurd h (Nat.not_lt_zero _)
  | n + 1, s, h, hI => by
    refine Ok.bind (hf s hI) ?_
    rintro r (⟨s', rfl, h', hm⟩ | ⟨s', rfl, q⟩ | ⟨v, rfl, q⟩)
    · exact Ok.whileR I Q Z μ hf n (by omega) h'
    · exact Ok.pure (.inl ⟨s', rfl, q⟩)
    · exact Ok.pure (.inr ⟨v, rfl, q⟩)
theorem cut2 {l : List Int} {i j : Nat} (h : i + j ≤ 2000000) : cutL l (some (i : Int)) (some ((i + j : Nat) : Int)) = (l.drop i).take j := by
  unfold cutL
  rw [HT.sIx_nat, HT.sIx_nat]
  by_cases c : i ≤ l.length
  · rw [show min i l.length = i by omega]
    rw [List.take_eq_take_iff, List.length_drop]
    omega
  · rw [show min i l.length = l.length by omega, List.drop_of_length_le (Nat.le_refl _), List.drop_of_length_le (by omega)]
    simp
end A

set_option Elab.async false
set_option linter.all false
set_option maxRecDepth 100000
set_option maxHeartbeats 2000000
namespace A
open PySem PySem.Spec PyProof.Rows L2 Y
open Y.Enc (enc)
/-! # contents of a box: bytes with their ends -/
theorem fd_nil {α : Type} {l : List α} {i : Nat} (h : l.length ≤ i) : l.drop i = [] := List.drop_of_length_le h
def nb (n b : Int) : Int := if b = 0 then n + 1 else 0
theorem nb01 {n b : Int} (h : n = 0 ∨ n = 1) (c : nb n b ≠ 2) : nb n b = 0 ∨ nb n b = 1 := nx01 h c
/-- all bytes that can be read, each with the place behind it; at 2 a nought waits for its 2 -/
def cc : Int → Nat → List Int → List (Int × Nat)
  | _, _, [] => []
  | n, at_, b :: s => if n = 2 then (if b = 2 then (0, at_ + 1) :: cc 0 (at_ + 1) s else []) else if nb n b = 2 then cc 2 (at_ + 1) s else (b, at_ + 1) :: cc (nb n b) (at_ + 1) s
/-- so many bytes are read -/
def uu : Int → Nat → Nat → List Int → Option (List Int × Nat)
  | n, k, at_, [] => if n = 2 ∨ 0 < k then none else some ([], at_)
  | n, k, at_, b :: s => if n = 2 then (if b = 2 then uu 0 k (at_ + 1) s else none) else match k with
    | 0 => some ([], at_)
    | k + 1 => (uu (nb n b) k (at_ + 1) s).map fun x => (b :: x.1, x.2)
theorem cc_two {at_ : Nat} {b : Int} {s : List Int} : cc 2 at_ (b :: s) = if b = 2 then (0, at_ + 1) :: cc 0 (at_ + 1) s else [] := if_pos rfl
theorem cc_wait {n : Int} {at_ : Nat} {b : Int} {s : List Int} (h : n = 0 ∨ n = 1) (c : nb n b = 2) : cc n at_ (b :: s) = cc 2 (at_ + 1) s := by
  show (if n = 2 then _ else _) = _
  rw [if_neg (by omega), if_pos c]
theorem cc_go {n : Int} {at_ : Nat} {b : Int} {s : List Int} (h : n = 0 ∨ n = 1) (c : nb n b ≠ 2) : cc n at_ (b :: s) = (b, at_ + 1) :: cc (nb n b) (at_ + 1) s := by
  show (if n = 2 then _ else _) = _
  rw [if_neg (by omega), if_neg c]
theorem cc2_head : ∀ {s : List Int} {at_ : Nat}, cc 2 at_ s = [] ∨ ∃ e r, cc 2 at_ s = (0, e) :: r
  | [], _ => .inl rfl
  | b :: s, at_ => by
    rw [cc_two]
    by_cases h : b = 2
    · rw [if_pos h]; exact .inr ⟨_, _, rfl⟩
    · rw [if_neg h]; exact .inl rfl
theorem nb2 {n b : Int} (h : n = 0 ∨ n = 1) (c : nb n b = 2) : b = 0 := by
  unfold nb at c
  by_cases hb : b = 0
  · exact hb
  · rw [if_neg hb] at c
    exact absurd c (by decide)
theorem uu_cc : ∀ (s : List Int) (k at_ : Nat), (∀ n, n = 0 ∨ n = 1 → uu n k at_ s = match k with
      | 0 => some ([], at_)
      | k + 1 => ((cc n at_ s)[k]?).map fun x => (((cc n at_ s).take (k + 1)).map (·.1), x.2)) ∧
    (uu 2 k at_ s).map (fun x => ((0 : Int) :: x.1, x.2)) = ((cc 2 at_ s)[k]?).map fun x => (((cc 2 at_ s).take (k + 1)).map (·.1), x.2)
  | [], k, at_ => by
    refine ⟨fun n h => ?_, rfl⟩
    show (if n = 2 ∨ 0 < k then _ else _) = _
    cases k with
    | zero => rw [if_neg (by omega)]
    | succ k => rw [if_pos (.inr (by omega))]; rfl
  | b :: s, k, at_ => by
    refine ⟨fun n h => ?_, ?_⟩
    · show (if n = 2 then _ else _) = _
      rw [if_neg (by omega)]
      cases k with
      | zero => rfl
      | succ k =>
        show (uu (nb n b) k (at_ + 1) s).map _ = _
        by_cases c : nb n b = 2
        · rw [cc_wait h c, c, nb2 h c]
          exact (uu_cc s k (at_ + 1)).2
        · rw [cc_go h c]
          have := (uu_cc s k (at_ + 1)).1 _ (nb01 h c)
          rw [this]
          cases k with
          | zero => rfl
          | succ k =>
            show ((((cc (nb n b) (at_ + 1) s)[k]?).map _).map _) = ((cc (nb n b) (at_ + 1) s)[k]?).map _
            rw [Option.map_map]
            rfl
    · show ((if (2 : Int) = 2 then _ else _ : Option (List Int × Nat)).map _) = _
      rw [if_pos rfl, cc_two]
      by_cases hb : b = 2
      · rw [if_pos hb, if_pos hb]
        have := (uu_cc s k (at_ + 1)).1 0 (.inl rfl)
        rw [this]
        cases k with
        | zero => rfl
        | succ k =>
          show ((((cc 0 (at_ + 1) s)[k]?).map _).map _) = ((cc 0 (at_ + 1) s)[k]?).map _
          rw [Option.map_map]
          rfl
      · rw [if_neg hb, if_neg hb]
        rfl
/-- so many bytes from a place -/
theorem uu0 {s : List Int} {k at_ : Nat} (h : 0 < k) : uu 0 k at_ s = ((cc 0 at_ s)[k - 1]?).map fun x => (((cc 0 at_ s).take k).map (·.1), x.2) := by
  obtain ⟨k, rfl⟩ : ∃ j, k = j + 1 := ⟨k - 1, by omega⟩
  exact (uu_cc s (k + 1) at_).1 0 (.inl rfl)
theorem whileEq {S R β : Type} {f : S → Res (Fl S R)} {g : S → Res β} {K : Fl S R → Res β} (I : S → Prop) (μ : S → Nat) (hf : ∀ s, I s → (∃ s', f s = .ok (.nx s') ∧ I s' ∧ μ s' < μ s ∧ g s' = g s) ∨ (∃ s', f s = .ok (.bk s') ∧ K (.bk s') = g s) ∨ ∃ v, f s = .ok (.rt v) ∧ K (.rt v) = g s) : ∀ (n : Nat) {s : S}, μ s < n → I s → (Y.whileR n s f).bind K = g s
  | 0, s, h, _ => absurd h (Nat.not_lt_zero _)
  | n + 1, s, h, hI => by
    show (Res.bind (Res.bind (f s) _) K) = _
    rcases hf s hI with ⟨s', e, h', hm, eg⟩ | ⟨s', e, q⟩ | ⟨v, e, q⟩
    · rw [e, ← eg]
      exact whileEq I μ hf n (by omega) h'
    · rw [e]
      exact q
    · rw [e]
      exact q
theorem atR {l : List Int} {i : Nat} {b : Int} {s : List Int} (h : l.drop i = b :: s) : ixR l (i : Int) = .ok b ∧ l.drop (i + 1) = s ∧ i < l.length := by
  have hi : i < l.length := by
    rcases Nat.lt_or_ge i l.length with h' | h'
    · exact h'
    · rw [fd_nil h'] at h; exact nomatch h
  rw [List.drop_eq_getElem_cons hi] at h
  injection h with h1 h2
  refine ⟨?_, h2, hi⟩
  unfold ixR
  obtain ⟨x, e1, e2, _⟩ := atI_in (l := l) (i := (i : Int)) (by omega) (by omega)
  rw [e1]
  rw [show ((i : Int)).toNat = i by omega, List.getElem?_eq_getElem hi, h1] at e2
  cases e2
  rfl
def okU (x : Option (List Int × Nat)) : Option (Tp2 (List Int) Int) := x.map fun x => ⟨x.1, (x.2 : Int)⟩
theorem un_from {row : List Int} {at_ k : Nat} (hl : row.length ≤ 900000) (ha : at_ ≤ row.length) : m_unstuffed_from row (at_ : Int) (k : Int) = .ok (okU (uu 0 k at_ (row.drop at_))) := by
  unfold m_unstuffed_from
  refine (whileEq (S := Int × Int × List Int) (g := fun s => .ok ((okU (uu s.2.1 (k - s.2.2.length) s.1.toNat (row.drop s.1.toNat))).map fun x => ⟨s.2.2 ++ x.a, x.b⟩)) (fun s => 0 ≤ s.1 ∧ s.1 ≤ (row.length : Int) ∧ (s.2.1 = 0 ∨ s.2.1 = 1 ∨ s.2.1 = 2) ∧ (s.2.2.length : Int) ≤ s.1) (fun s => row.length - s.1.toNat) ?_ _ (by show row.length - _ < _; omega) ⟨by show (0 : Int) ≤ (at_ : Int); omega, by show (at_ : Int) ≤ _; omega, .inl rfl, by show (0 : Int) ≤ (at_ : Int); omega⟩).trans ?_
  · rintro ⟨p, n, acc⟩ ⟨h0, h1, h2, h3⟩
    simp only at h0 h1 h2 h3
    obtain ⟨i, rfl⟩ : ∃ i : Nat, p = (i : Int) := ⟨p.toNat, by omega⟩
    have hi : (i : Int).toNat = i := by omega
    simp only [hi]
    cases e : row.drop i with
    | nil =>
      have hir : i = row.length := by
        have : (row.drop i).length = 0 := by rw [e]; rfl
        rw [List.length_drop] at this
        omega
      have d1 : decide ((i : Int) = (row.length : Int)) = true := decide_eq_true (by omega)
      by_cases hm : (acc.length : Int) < (k : Int)
      · refine .inr (.inr ⟨none, ?_, ?_⟩)
        · rw [if_pos (decide_eq_true hm), if_pos d1]
        · show _ = Res.ok _
          rw [show uu n (k - acc.length) i [] = none from if_pos (.inr (by omega))]
          rfl
      · by_cases hn : n = 2
        · refine .inr (.inr ⟨none, ?_, ?_⟩)
          · rw [if_neg (by rw [decide_eq_false hm]; decide), if_pos (decide_eq_true hn), if_pos d1]
          · rw [show uu n (k - acc.length) i [] = none from if_pos (.inl hn)]
            rfl
        · refine .inr (.inl ⟨((i : Int), n, acc), ?_, ?_⟩)
          · rw [if_neg (by rw [decide_eq_false hm]; decide), if_neg (by rw [decide_eq_false hn]; decide)]
          · rw [show uu n (k - acc.length) i [] = some ([], i) from if_neg (by omega)]
            show Res.ok (some (⟨acc, (i : Int)⟩ : Tp2 (List Int) Int)) = .ok (some ⟨acc ++ [], (i : Int)⟩)
            rw [List.append_nil]
    | cons b s =>
      obtain ⟨e1, e2, e3⟩ := atR e
      have d1 : decide ((i : Int) = (row.length : Int)) = false := decide_eq_false (by omega)
      have hi1 : ((i : Int) + 1).toNat = i + 1 := by omega
      have read : ∀ {α : Type} {kk : Int → Res α}, (ixR row (i : Int)).bind kk = kk b := fun {α kk} => by rw [e1]; rfl
      by_cases hm : (acc.length : Int) < (k : Int)
      · rw [if_pos (decide_eq_true hm), if_neg (by rw [d1]; decide), read]
        show (∃ s', (if decide (n < 2) = true then _ else _) = _ ∧ _) ∨ _
        by_cases hn : n = 2
        · subst hn
          rw [show decide ((2 : Int) < 2) = false from by decide]
          by_cases hb : b = 2
          · refine .inl ⟨((i : Int) + 1, 0, acc), ?_, ⟨by simp only; omega, by simp only; omega, .inl rfl, by simp only; omega⟩, by simp only; omega, ?_⟩
            · show (if decide (b = 2) = true then _ else _) = _
              rw [if_pos (decide_eq_true hb)]
            · simp only [hi1, e2]
              rw [show uu 2 (k - acc.length) i (b :: s) = uu 0 (k - acc.length) (i + 1) s from (if_pos rfl).trans (if_pos hb)]
          · refine .inr (.inr ⟨none, ?_, ?_⟩)
            · show (if decide (b = 2) = true then _ else _) = _
              rw [if_neg (by rw [decide_eq_false hb]; decide)]
            · rw [show uu 2 (k - acc.length) i (b :: s) = none from (if_pos rfl).trans (if_neg hb)]
              rfl
        · have hn2 : n = 0 ∨ n = 1 := by omega
          rw [show decide (n < 2) = true from decide_eq_true (by omega)]
          refine .inl ⟨((i : Int) + 1, nb n b, acc ++ [b]), ?_, ⟨by simp only; omega, by simp only; omega, ?_, by simp only [List.length_append, List.length_singleton]; omega⟩, by simp only; omega, ?_⟩
          · show guardR (acc.length < 1000000) _ = _
            unfold guardR
            rw [if_pos (by omega), behind]
            rfl
          · show nb n b = 0 ∨ nb n b = 1 ∨ nb n b = 2
            unfold nb
            split <;> omega
          · simp only [hi1, e2]
            obtain ⟨j, hj⟩ : ∃ j, k - acc.length = j + 1 := ⟨k - acc.length - 1, by omega⟩
            rw [hj, show k - (acc ++ [b]).length = j by rw [List.length_append]; show k - (acc.length + 1) = j; omega, show uu n (j + 1) i (b :: s) = (uu (nb n b) j (i + 1) s).map fun x => (b :: x.1, x.2) from if_neg hn]
            unfold okU
            rw [Option.map_map, Option.map_map, Option.map_map]
            refine congrArg (fun f => Res.ok (Option.map f (uu (nb n b) j (i + 1) s))) (funext fun x => ?_)
            show (⟨(acc ++ [b]) ++ x.1, (x.2 : Int)⟩ : Tp2 (List Int) Int) = ⟨acc ++ b :: x.1, (x.2 : Int)⟩
            rw [List.append_assoc]
            rfl
      · have hk : k - acc.length = 0 := by omega
        rw [if_neg (by rw [decide_eq_false hm]; decide)]
        by_cases hn : n = 2
        · subst hn
          rw [if_pos (decide_eq_true rfl), if_neg (by rw [d1]; decide), read]
          unfold Y.lt
          dsimp only
          rw [if_neg (show ¬ (decide ((2 : Int) < 2) = true) by decide)]
          by_cases hb : b = 2
          · refine .inl ⟨((i : Int) + 1, 0, acc), ?_, ⟨by simp only; omega, by simp only; omega, .inl rfl, by simp only; omega⟩, by simp only; omega, ?_⟩
            · rw [if_pos (decide_eq_true hb)]
            · simp only [hi1, e2]
              rw [show uu 2 (k - acc.length) i (b :: s) = uu 0 (k - acc.length) (i + 1) s from (if_pos rfl).trans (if_pos hb)]
          · refine .inr (.inr ⟨none, ?_, ?_⟩)
            · rw [if_neg (by rw [decide_eq_false hb]; decide)]
            · rw [show uu 2 (k - acc.length) i (b :: s) = none from (if_pos rfl).trans (if_neg hb)]
              rfl
        · refine .inr (.inl ⟨((i : Int), n, acc), ?_, ?_⟩)
          · rw [if_neg (by rw [decide_eq_false hn]; decide)]
          · rw [hk, show uu n 0 i (b :: s) = some ([], i) from if_neg hn]
            show Res.ok (some (⟨acc, (i : Int)⟩ : Tp2 (List Int) Int)) = .ok (some ⟨acc ++ [], (i : Int)⟩)
            rw [List.append_nil]
  · show Res.ok (Option.map _ (okU (uu 0 (k - 0) (at_ : Int).toNat (row.drop (at_ : Int).toNat)))) = _
    rw [show ((at_ : Int)).toNat = at_ by omega, Nat.sub_zero]
    cases uu 0 k at_ (row.drop at_) <;> rfl
/-! # the law's reading of all contents -/
theorem cut_last {l : List Int} : cutL l none (some (-1)) = l.dropLast := by
  unfold cutL
  have e : HT.sIx l.length l.length (some (-1)) = l.length - 1 := by
    show (if (-1 : Int) < 0 then ((-1 : Int) + (l.length : Int)).toNat else min (-1 : Int).toNat l.length) = _
    rw [if_pos (by decide)]
    omega
  rw [List.dropLast_eq_take, e]
  rfl
theorem set_last {l : List Int} {a x : Int} : setR (l ++ [a]) (-1) x = .ok (l ++ [x]) := by
  unfold setR ixN
  rw [if_neg (by decide), if_pos (by rw [List.length_append]; show -((l.length + 1 : Nat) : Int) ≤ -1; omega)]
  show Res.ok ((l ++ [a]).set ((-1 : Int) + ((l ++ [a]).length : Nat)).toNat x) = _
  rw [show ((-1 : Int) + ((l ++ [a]).length : Nat)).toNat = l.length by rw [List.length_append]; show ((-1 : Int) + ((l.length + 1 : Nat) : Int)).toNat = _; omega]
  simp
theorem nb_mul {n b : Int} : (n + 1) * b2z (decide (b = 0)) = nb n b := by
  unfold nb
  by_cases hb : b = 0
  · rw [if_pos hb, decide_eq_true hb]; show (n + 1) * 1 = _; omega
  · rw [if_neg hb, decide_eq_false hb]; show (n + 1) * 0 = _; omega
def fsC (C : List (Int × Nat)) : List Int := C.map (·.1)
def snC (C : List (Int × Nat)) : List Int := C.map fun x => (x.2 : Int)
theorem contents_l {row : List Int} {at_ : Nat} (hl : row.length ≤ 900000) (ha : at_ ≤ row.length) : l_contents row (at_ : Int) = .ok ⟨fsC (cc 0 at_ (row.drop at_)), snC (cc 0 at_ (row.drop at_))⟩ := by
  unfold l_contents
  refine (whileEq (S := Int × Int × List Int × List Int) (g := fun s => .ok (if s.1 = 2 then ⟨s.2.2.1.dropLast ++ fsC (cc 2 s.2.1.toNat (row.drop s.2.1.toNat)), s.2.2.2.dropLast ++ snC (cc 2 s.2.1.toNat (row.drop s.2.1.toNat))⟩ else ⟨s.2.2.1 ++ fsC (cc s.1 s.2.1.toNat (row.drop s.2.1.toNat)), s.2.2.2 ++ snC (cc s.1 s.2.1.toNat (row.drop s.2.1.toNat))⟩)) (fun s => 0 ≤ s.2.1 ∧ s.2.1 ≤ (row.length : Int) ∧ (s.1 = 0 ∨ s.1 = 1 ∨ s.1 = 2 ∧ (∃ F, s.2.2.1 = F ++ [0]) ∧ ∃ P q, s.2.2.2 = P ++ [q]) ∧ (s.2.2.1.length : Int) ≤ s.2.1 ∧ (s.2.2.2.length : Int) ≤ s.2.1) (fun s => row.length - s.2.1.toNat) ?_ _ (by show row.length - _ < _; omega) ⟨by show (0 : Int) ≤ (at_ : Int); omega, by show (at_ : Int) ≤ _; omega, .inl rfl, by show (0 : Int) ≤ (at_ : Int); omega, by show (0 : Int) ≤ (at_ : Int); omega⟩).trans ?_
  · rintro ⟨n, p, F, P⟩ ⟨h0, h1, h2, h3, h4⟩
    simp only at h0 h1 h2 h3 h4
    obtain ⟨i, rfl⟩ : ∃ i : Nat, p = (i : Int) := ⟨p.toNat, by omega⟩
    have hi : (i : Int).toNat = i := by omega
    simp only [hi]
    cases e : row.drop i with
    | nil =>
      have hir : i = row.length := by
        have : (row.drop i).length = 0 := by rw [e]; rfl
        rw [List.length_drop] at this
        omega
      refine .inr (.inl ⟨(n, (i : Int), F, P), ?_, ?_⟩)
      · rw [if_neg (by rw [decide_eq_false (by omega)]; decide)]
      · show (if decide (n = 2) = true then _ else _) = _
        by_cases hn : n = 2
        · rw [if_pos (decide_eq_true hn), if_pos hn, cut_last, cut_last]
          show Res.ok (⟨F.dropLast, P.dropLast⟩ : Tp2 (List Int) (List Int)) = .ok ⟨F.dropLast ++ [], P.dropLast ++ []⟩
          rw [List.append_nil, List.append_nil]
        · rw [if_neg (by rw [decide_eq_false hn]; decide), if_neg hn]
          show Res.ok (⟨F, P⟩ : Tp2 (List Int) (List Int)) = .ok ⟨F ++ [], P ++ []⟩
          rw [List.append_nil, List.append_nil]
    | cons b s =>
      obtain ⟨e1, e2, e3⟩ := atR e
      have hi1 : ((i : Int) + 1).toNat = i + 1 := by omega
      have read : ∀ {α : Type} {kk : Int → Res α}, (ixR row (i : Int)).bind kk = kk b := fun {α kk} => by rw [e1]; rfl
      rw [if_pos (decide_eq_true (by omega))]
      by_cases hn : n = 2
      · subst hn
        obtain ⟨F', rfl⟩ : ∃ F', F = F' ++ [0] := by
          rcases h2 with h | h | h
          · exact absurd h (by decide)
          · exact absurd h (by decide)
          · exact h.2.1
        obtain ⟨P', q, rfl⟩ : ∃ P' q, P = P' ++ [q] := by
          rcases h2 with h | h | h
          · exact absurd h (by decide)
          · exact absurd h (by decide)
          · exact h.2.2
        rw [if_neg (show ¬ (decide ((2 : Int) < 2) = true) by decide), read]
        by_cases hb : b = 2
        · rw [if_pos (decide_eq_true hb), set_last]
          refine .inl ⟨(0, (i : Int) + 1, F' ++ [0], P' ++ [(i : Int) + 1]), rfl, ⟨by simp only; omega, by simp only; omega, .inl rfl, by simp only; omega, by simp only [List.length_append, List.length_singleton] at h4 ⊢; omega⟩, by simp only; omega, ?_⟩
          simp only [hi1, e2]
          rw [if_pos trivial, cc_two, if_pos hb, List.dropLast_concat, List.dropLast_concat]
          unfold fsC snC
          simp
        · rw [if_neg (by rw [decide_eq_false hb]; decide)]
          refine .inr (.inr ⟨_, rfl, ?_⟩)
          rw [if_pos rfl, cc_two, if_neg hb, cut_last, cut_last]
          show Res.ok _ = Res.ok (⟨_ ++ [], _ ++ []⟩ : Tp2 (List Int) (List Int))
          rw [List.append_nil, List.append_nil]
      · have hn2 : n = 0 ∨ n = 1 := by omega
        have cm : CMulW (n + 1) (b2z (decide (b = 0))) := mulW (a := 2) (b := 2) (by omega) (by cases decide (b = 0) <;> decide)
        rw [if_pos (decide_eq_true (by omega)), read, read]
        unfold guardR Y.lt
        rw [if_pos (by omega), if_pos (by omega), if_pos cm, nb_mul]
        refine .inl ⟨(nb n b, (i : Int) + 1, F ++ [b], P ++ [(i : Int) + 1]), rfl, ⟨by simp only; omega, by simp only; omega, ?_, by simp only [List.length_append, List.length_singleton]; omega, by simp only [List.length_append, List.length_singleton]; omega⟩, by simp only; omega, ?_⟩
        · by_cases c : nb n b = 2
          · exact .inr (.inr ⟨c, ⟨F, by rw [nb2 hn2 c]⟩, P, _, rfl⟩)
          · rcases nb01 hn2 c with h | h
            · exact .inl h
            · exact .inr (.inl h)
        · simp only [hi1, e2]
          rw [if_neg hn]
          by_cases c : nb n b = 2
          · rw [if_pos c, cc_wait hn2 c, List.dropLast_concat, List.dropLast_concat]
          · rw [if_neg c, cc_go hn2 c]
            unfold fsC snC
            simp
  · show Res.ok (⟨[] ++ fsC (cc 0 (at_ : Int).toNat (row.drop (at_ : Int).toNat)), [] ++ snC (cc 0 (at_ : Int).toNat (row.drop (at_ : Int).toNat))⟩ : Tp2 (List Int) (List Int)) = _
    rw [show ((at_ : Int)).toNat = at_ by omega, List.nil_append, List.nil_append]
/-! # numbers in bytes -/
abbrev GRT : Int := 1000000000000000000000000000000000000000000000000000000000000
def num : Int → Nat → List Int → Option (Int × Nat)
  | _, _, [] => none
  | acc, k, b :: s => if GRT < acc * 128 + b % 128 then none else if b < 128 then some (acc * 128 + b % 128, k + 1) else num (acc * 128 + b % 128) (k + 1) s
def tpN (x : Option (Int × Nat)) : Option (Tp2 Int Int) := x.map fun x => ⟨x.1, (x.2 : Int)⟩
/-- the number at a place -/
def numb (k : Nat) (s : List Int) : Option (Int × Nat) := if s.head? = some 128 then none else num 0 k s
theorem head_one {s : List Int} : s.take 1 = [128] ↔ s.head? = some 128 := by cases s <;> simp
theorem number_m {row : List Int} {at_ : Nat} (hl : row.length ≤ 900000) (ha : at_ ≤ row.length) : m_number_at row (at_ : Int) = .ok (tpN (numb at_ (row.drop at_))) := by
  unfold m_number_at
  have ec : cutL row (some (at_ : Int)) (some ((at_ : Int) + 1)) = (row.drop at_).take 1 := cut2 (i := at_) (j := 1) (by omega)
  rw [ec]
  unfold guardR
  rw [if_pos (ok_rows _ _), eq_rows]
  unfold numb
  by_cases c : (row.drop at_).head? = some 128
  · rw [if_pos (decide_eq_true (head_one.mpr c)), if_pos c]
    rfl
  · rw [if_neg (by rw [decide_eq_false fun z => c (head_one.mp z)]; decide), if_neg c]
    refine (whileEq (S := Int × Int) (g := fun s => .ok (tpN (num s.1 s.2.toNat (row.drop s.2.toNat)))) (fun s => 0 ≤ s.2 ∧ s.2 ≤ (row.length : Int)) (fun s => row.length - s.2.toNat) ?_ _ (by show row.length - _ < _; omega) ⟨by show (0 : Int) ≤ (at_ : Int); omega, by show (at_ : Int) ≤ _; omega⟩).trans ?_
    · rintro ⟨acc, p⟩ ⟨h0, h1⟩
      simp only at h0 h1
      obtain ⟨i, rfl⟩ : ∃ i : Nat, p = (i : Int) := ⟨p.toNat, by omega⟩
      have hi : (i : Int).toNat = i := by omega
      simp only [hi]
      cases e : row.drop i with
      | nil =>
        have hir : i = row.length := by
          have : (row.drop i).length = 0 := by rw [e]; rfl
          rw [List.length_drop] at this
          omega
        exact .inr (.inl ⟨(acc, (i : Int)), by rw [if_neg (by rw [decide_eq_false (by omega)]; decide)], rfl⟩)
      | cons b s =>
        obtain ⟨e1, e2, e3⟩ := atR e
        have hi1 : ((i : Int) + 1).toNat = i + 1 := by omega
        rw [if_pos (decide_eq_true (by omega)), e1]
        show (∃ s', (if decide (GRT < acc * 128 + b % 128) = true then _ else _) = _ ∧ _) ∨ (∃ s', (if decide (GRT < acc * 128 + b % 128) = true then _ else _) = _ ∧ _) ∨ ∃ v, (if decide (GRT < acc * 128 + b % 128) = true then _ else _) = _ ∧ _
        have en : num acc i (b :: s) = if GRT < acc * 128 + b % 128 then none else if b < 128 then some (acc * 128 + b % 128, i + 1) else num (acc * 128 + b % 128) (i + 1) s := rfl
        rw [en]
        by_cases hg : GRT < acc * 128 + b % 128
        · rw [if_pos (decide_eq_true hg), if_pos hg]
          exact .inr (.inr ⟨_, rfl, rfl⟩)
        · rw [if_neg (by rw [decide_eq_false hg]; decide), if_neg hg, show (i : Int) + 1 - 1 = (i : Int) by omega, e1]
          show (∃ s', (if decide (b < 128) = true then _ else _) = _ ∧ _) ∨ (∃ s', (if decide (b < 128) = true then _ else _) = _ ∧ _) ∨ ∃ v, (if decide (b < 128) = true then _ else _) = _ ∧ _
          by_cases hb : b < 128
          · rw [if_pos (decide_eq_true hb), if_pos hb]
            exact .inr (.inr ⟨_, rfl, rfl⟩)
          · rw [if_neg (by rw [decide_eq_false hb]; decide), if_neg hb]
            exact .inl ⟨(_, (i : Int) + 1), rfl, ⟨by simp only; omega, by simp only; omega⟩, by simp only; omega, by simp only [hi1, e2]⟩
    · show Res.ok (tpN (num 0 (at_ : Int).toNat (row.drop (at_ : Int).toNat))) = _
      rw [show ((at_ : Int)).toNat = at_ by omega]
theorem rngI_cons {i j : Int} (h : i < j) : rngI i j = i :: rngI (i + 1) j := by
  unfold rngI
  rw [show (j - i).toNat = (j - (i + 1)).toNat + 1 by omega, List.range_succ_eq_map, List.map_cons, List.map_map]
  refine congr (congrArg _ (by omega)) (List.map_congr_left fun x _ => ?_)
  show i + ((x + 1 : Nat) : Int) = i + 1 + (x : Int)
  omega
theorem rngI_nil {i j : Int} (h : j ≤ i) : rngI i j = [] := by
  unfold rngI
  rw [show (j - i).toNat = 0 by omega]
  rfl
theorem number_l {row : List Int} {at_ : Nat} (hl : row.length ≤ 900000) : l_number_at row (at_ : Int) = .ok (tpN (numb at_ (row.drop at_))) := by
  unfold l_number_at
  by_cases hz : (row.length : Int) ≤ (at_ : Int)
  · rw [if_pos (decide_eq_true hz), fd_nil (by omega)]
    rfl
  rw [if_neg (by rw [decide_eq_false hz]; decide)]
  cases e0 : row.drop at_ with
  | nil =>
    have : (row.drop at_).length = 0 := by rw [e0]; rfl
    rw [List.length_drop] at this
    omega
  | cons b0 s0 =>
    obtain ⟨e1, e2, e3⟩ := atR e0
    rw [e1]
    show (if decide (b0 = 128) = true then _ else _) = _
    unfold numb
    by_cases c : b0 = 128
    · rw [if_pos (decide_eq_true c), if_pos (by rw [c]; rfl)]
      rfl
    · rw [if_neg (by rw [decide_eq_false c]; decide), if_neg (fun z => c (by injection z))]
      unfold guardR
      rw [if_pos (by omega), ← e0]
      have main : ∀ (s : List Int) (i : Nat) (acc : Int), row.drop i = s → i ≤ row.length → (forR (rngI (i : Int) (row.length : Int)) acc (fun x26 (a25 : Int) => (ixR row x26).bind fun x37 => lt (((a25 * 128) + (x37 % 128)) : Int) fun x41 => (if (decide (1000000000000000000000000000000000000000000000000000000000000 < x41)) = true then (.ok (.rt none) : Res (Fl Int (Option (Tp2 Int Int)))) else (ixR row x26).bind fun x46 => (if (decide (x46 < 128)) = true then .ok (.rt (some (⟨x41, (x26 + 1)⟩ : (Tp2 Int Int)))) else .ok (.nx x41))))).bind (afterR fun a55 => .ok none) = .ok (tpN (num acc i s)) := by
        intro s
        induction s with
        | nil =>
          intro i acc e hi
          have : (row.drop i).length = 0 := by rw [e]; rfl
          rw [List.length_drop] at this
          rw [rngI_nil (by omega)]
          rfl
        | cons b s ih =>
          intro i acc e hi
          obtain ⟨e1, e2, e3⟩ := atR e
          rw [rngI_cons (by omega)]
          show Res.bind (Res.bind ((ixR row (i : Int)).bind _) _) _ = _
          rw [e1]
          show Res.bind (Res.bind (if decide (GRT < acc * 128 + b % 128) = true then _ else _) _) _ = _
          have en : num acc i (b :: s) = if GRT < acc * 128 + b % 128 then none else if b < 128 then some (acc * 128 + b % 128, i + 1) else num (acc * 128 + b % 128) (i + 1) s := rfl
          rw [en]
          by_cases hg : GRT < acc * 128 + b % 128
          · rw [if_pos (decide_eq_true hg), if_pos hg]
            rfl
          · rw [if_neg (by rw [decide_eq_false hg]; decide), if_neg hg]
            show Res.bind (Res.bind (if decide (b < 128) = true then _ else _) _) _ = _
            by_cases hb : b < 128
            · rw [if_pos (decide_eq_true hb), if_pos hb]
              rfl
            · rw [if_neg (by rw [decide_eq_false hb]; decide), if_neg hb]
              exact ih (i + 1) _ e2 (by omega)
      exact main _ at_ 0 rfl (by omega)
theorem num_take : ∀ (s : List Int) (acc : Int) (k j : Nat), num acc j (s.take k) = (num acc j s).filter fun x => decide (x.2 ≤ j + k)
  | [], acc, k, j => by cases k <;> rfl
  | b :: s, acc, 0, j => by
    show none = _
    cases h : num acc j (b :: s) with
    | none => rfl
    | some x =>
      have : ∀ (s : List Int) (acc : Int) (j : Nat), num acc j s = some x → j < x.2 := by
        intro s
        induction s with
        | nil => exact fun _ _ z => nomatch z
        | cons b s ih =>
          intro acc j z
          have en : num acc j (b :: s) = if GRT < acc * 128 + b % 128 then none else if b < 128 then some (acc * 128 + b % 128, j + 1) else num (acc * 128 + b % 128) (j + 1) s := rfl
          rw [en] at z
          by_cases hg : GRT < acc * 128 + b % 128
          · rw [if_pos hg] at z; exact nomatch z
          · rw [if_neg hg] at z
            by_cases hb : b < 128
            · rw [if_pos hb] at z; cases z; exact Nat.lt_succ_self _
            · rw [if_neg hb] at z; have := ih _ _ z; omega
      have := this _ _ _ h
      show none = if decide (x.2 ≤ j + 0) = true then some x else none
      rw [if_neg (by rw [decide_eq_false (by omega)]; decide)]
  | b :: s, acc, k + 1, j => by
    show (if GRT < acc * 128 + b % 128 then none else if b < 128 then some (acc * 128 + b % 128, j + 1) else num (acc * 128 + b % 128) (j + 1) (s.take k)) = Option.filter _ (if GRT < acc * 128 + b % 128 then none else if b < 128 then some (acc * 128 + b % 128, j + 1) else num (acc * 128 + b % 128) (j + 1) s)
    by_cases hg : GRT < acc * 128 + b % 128
    · rw [if_pos hg, if_pos hg]; rfl
    · rw [if_neg hg, if_neg hg]
      by_cases hb : b < 128
      · rw [if_pos hb, if_pos hb]
        show _ = if decide (j + 1 ≤ j + (k + 1)) = true then _ else _
        rw [if_pos (decide_eq_true (by omega))]
      · rw [if_neg hb, if_neg hb, num_take s _ k (j + 1)]
        refine congrArg (fun f => Option.filter f _) (funext fun x => ?_)
        exact decide_eq_decide.mpr (by omega)
theorem num_ge : ∀ (s : List Int) (acc : Int) (j : Nat) (x : Int × Nat), 0 ≤ acc → num acc j s = some x → 0 ≤ x.1 ∧ j < x.2 ∧ x.2 ≤ j + s.length ∧ acc * 128 ^ (x.2 - j) ≤ x.1
  | [], _, _, _, _, z => nomatch z
  | b :: s, acc, j, x, h0, z => by
    have en : num acc j (b :: s) = if GRT < acc * 128 + b % 128 then none else if b < 128 then some (acc * 128 + b % 128, j + 1) else num (acc * 128 + b % 128) (j + 1) s := rfl
    rw [en] at z
    by_cases hg : GRT < acc * 128 + b % 128
    · rw [if_pos hg] at z; exact nomatch z
    · rw [if_neg hg] at z
      have hm : 0 ≤ acc * 128 + b % 128 := by omega
      by_cases hb : b < 128
      · rw [if_pos hb] at z
        cases z
        refine ⟨hm, Nat.lt_succ_self _, by simp only [List.length_cons]; omega, ?_⟩
        rw [show j + 1 - j = 1 by omega]
        show acc * 128 ^ 1 ≤ acc * 128 + b % 128
        omega
      · rw [if_neg hb] at z
        obtain ⟨q0, q1, q2, q3⟩ := num_ge s _ (j + 1) x hm z
        refine ⟨q0, by omega, by simp only [List.length_cons]; omega, Int.le_trans ?_ q3⟩
        rw [show x.2 - j = (x.2 - (j + 1)) + 1 by omega, Int.pow_succ, Int.mul_comm (128 ^ _) 128, ← Int.mul_assoc]
        exact Int.mul_le_mul_of_nonneg_right (by omega) (Int.le_of_lt (Int.pow_pos (by decide)))
theorem numb_some {k : Nat} {s : List Int} {x : Int × Nat} (h : numb k s = some x) : 0 ≤ x.1 ∧ k < x.2 ∧ x.2 ≤ k + s.length := by
  unfold numb at h
  by_cases c : s.head? = some 128
  · rw [if_pos c] at h; exact nomatch h
  · rw [if_neg c] at h
    have := num_ge s 0 k x (Int.le_refl _) h
    exact ⟨this.1, this.2.1, this.2.2.1⟩
/-- a small number is read from three bytes -/
theorem numb_small {s : List Int} {x : Int × Nat} (hs : ∀ b ∈ s, Byt b) (h : numb 0 s = some x) (hx : x.1 ≤ 60000) : x.2 ≤ 3 := by
  unfold numb at h
  by_cases c : s.head? = some 128
  · rw [if_pos c] at h; exact nomatch h
  · rw [if_neg c] at h
    cases s with
    | nil => exact nomatch h
    | cons b s =>
      have hb0 := (hs b List.mem_cons_self).1
      have hb1 := (hs b List.mem_cons_self).2
      have hb2 : b ≠ 128 := fun z => c (by rw [z]; rfl)
      have en : num 0 0 (b :: s) = if GRT < 0 * 128 + b % 128 then none else if b < 128 then some (0 * 128 + b % 128, 1) else num (0 * 128 + b % 128) 1 s := rfl
      rw [en] at h
      by_cases hg : GRT < 0 * 128 + b % 128
      · rw [if_pos hg] at h; exact nomatch h
      · rw [if_neg hg] at h
        by_cases hb : b < 128
        · rw [if_pos hb] at h
          cases h
          exact (by decide : (1 : Nat) ≤ 3)
        · rw [if_neg hb] at h
          obtain ⟨_, q1, _, q3⟩ := num_ge s _ 1 x (by omega) h
          rcases Nat.lt_or_ge 3 x.2 with q | q
          · have p3 : (128 : Int) ^ 3 ≤ 128 ^ (x.2 - 1) := by
              have : (128 : Nat) ^ 3 ≤ 128 ^ (x.2 - 1) := Nat.pow_le_pow_right (by decide) (by omega)
              exact_mod_cast this
            have p4 : 1 * (128 : Int) ^ (x.2 - 1) ≤ (0 * 128 + b % 128) * 128 ^ (x.2 - 1) := Int.mul_le_mul_of_nonneg_right (by omega) (Int.le_of_lt (Int.pow_pos (by decide)))
            have p5 : (128 : Int) ^ 3 = 2097152 := by decide
            omega
          · exact q
theorem numb_take {s : List Int} {k : Nat} (hk : 0 < k) : numb 0 (s.take k) = (numb 0 s).filter fun x => decide (x.2 ≤ k) := by
  unfold numb
  rw [show (s.take k).head? = s.head? by cases s with | nil => rw [List.take_nil] | cons b s => obtain ⟨k, rfl⟩ : ∃ j, k = j + 1 := ⟨k - 1, by omega⟩; rfl]
  by_cases c : s.head? = some 128
  · rw [if_pos c, if_pos c]; rfl
  · rw [if_neg c, if_neg c, num_take]
    refine congrArg (fun f => Option.filter f _) (funext fun x => ?_)
    exact decide_eq_decide.mpr (by omega)
/-! # where a box stands -/
theorem chk_ok {l : List Int} (hl : l.length ≤ 1000000) (h : ∀ b ∈ l, Byt b) : m_check l = .ok (sumB l 1) := by
  unfold m_check
  rw [sure_row hl h]
  have main : ∀ (l : List Int) (n : Int), (forR l n (fun (x19 : Int) (a18 : Int) => lt ((((a18 * 257) + x19) % 65521) : Int) fun x26 => (.ok (.nx x26) : Res (Fl Int Int)))).bind (afterR fun a27 => .ok a27) = .ok (sumB l n) := by
    intro l
    induction l with
    | nil => exact fun n => rfl
    | cons b l ih => exact fun n => ih ((n * 257 + b) % 65521)
  exact main l 1
def ckb (k : Int) (b : List Int) : List Int := [sumB (k :: b) 1 / 256, sumB (k :: b) 1 % 256]
theorem ckb_m {k : Int} {b : List Int} (hl : b.length ≤ 900000) (hk : Byt k) (h : ∀ x ∈ b, Byt x) : m_check_bytes k b = .ok (ckb k b) := by
  unfold m_check_bytes guardR
  rw [if_pos (by show 1 + b.length ≤ _; omega), chk_ok (l := [k] ++ b) (by show b.length + 1 ≤ _; omega) fun x m => by
    rcases List.mem_cons.mp m with rfl | m
    · exact hk
    · exact h x m]
  rfl
def hasStart (row : List Int) (at_ : Nat) : Bool := decide ((row.drop at_).take 3 = [0, 0, 1])
theorem start_m {row : List Int} {at_ : Nat} (hl : row.length ≤ 900000) (ha : at_ ≤ row.length) : m_stands_start row (at_ : Int) = .ok (hasStart row at_) := by
  unfold m_stands_start guardR
  rw [if_pos (ok_rows _ _), eq_rows, show cutL row (some (at_ : Int)) (some ((at_ : Int) + 3)) = (row.drop at_).take 3 from cut2 (i := at_) (j := 3) (by omega)]
  rfl
def sizeS (F : List Int) : Option (Int × Nat) :=
  if F.length < 1 then none else match numb 0 (F.take 1) with
  | some x => some x
  | none => if F.length < 2 then none else match numb 0 (F.take 2) with
    | some x => some x
    | none => if F.length < 3 then none else numb 0 (F.take 3)
theorem size_step {row : List Int} {at_ k : Nat} (hl : row.length ≤ 900000) (ha : at_ ≤ row.length) (hk : 0 < k) {γ : Type} (kk : Option (Tp2 (List Int) Int) → Res γ) (n s : Res γ) (hn : kk none = n) (hs : ∀ (f : List Int) (e : Int), f = (fsC (cc 0 at_ (row.drop at_))).take k → kk (some ⟨f, e⟩) = s) :
    (m_unstuffed_from row (at_ : Int) (k : Int)).bind kk = if (fsC (cc 0 at_ (row.drop at_))).length < k then n else s := by
  rw [un_from hl ha, uu0 hk]
  have ll : (fsC (cc 0 at_ (row.drop at_))).length = (cc 0 at_ (row.drop at_)).length := List.length_map ..
  show kk (okU _) = _
  rw [ll]
  by_cases c : (cc 0 at_ (row.drop at_)).length < k
  · rw [if_pos c, List.getElem?_eq_none (by omega)]
    exact hn
  · rw [if_neg c, List.getElem?_eq_getElem (by omega)]
    exact hs _ _ (by unfold fsC; rw [List.map_take])
theorem fs_len : ∀ {s : List Int} {n : Int} {at_ : Nat}, (cc n at_ s).length ≤ s.length
  | [], _, _ => Nat.le_refl _
  | b :: s, n, at_ => by
    have h := fun n at_ => fs_len (s := s) (n := n) (at_ := at_)
    show (if n = 2 then (if b = 2 then (0, at_ + 1) :: cc 0 (at_ + 1) s else []) else if nb n b = 2 then cc 2 (at_ + 1) s else (b, at_ + 1) :: cc (nb n b) (at_ + 1) s : List (Int × Nat)).length ≤ s.length + 1
    by_cases c : n = 2
    · rw [if_pos c]
      by_cases d : b = 2
      · rw [if_pos d]
        have := h 0 (at_ + 1)
        show _ + 1 ≤ _
        omega
      · rw [if_neg d]
        exact Nat.zero_le _
    · rw [if_neg c]
      by_cases d : nb n b = 2
      · rw [if_pos d]
        have := h 2 (at_ + 1)
        omega
      · rw [if_neg d]
        have := h (nb n b) (at_ + 1)
        show _ + 1 ≤ _
        omega
theorem size_m {row : List Int} {at_ : Nat} (hl : row.length ≤ 900000) (ha : at_ ≤ row.length) : m_size_at row (at_ : Int) = .ok (tpN (sizeS (fsC (cc 0 at_ (row.drop at_))))) := by
  have lf : (fsC (cc 0 at_ (row.drop at_))).length ≤ 900000 := by
    have := fs_len (s := row.drop at_) (n := 0) (at_ := at_)
    unfold fsC
    rw [List.length_map]
    rw [List.length_drop] at this
    omega
  have num3 : ∀ {f : List Int}, f.length ≤ 900000 → m_number_at f 0 = .ok (tpN (numb 0 f)) := fun h => number_m (at_ := 0) h (Nat.zero_le _)
  have step : ∀ k : Nat, 0 < k → ((m_unstuffed_from row (at_ : Int) (k : Int)).bind fun x28 => (if (isNonD (enc x28)) = true then (.ok (.rt none) : Res (Fl Unit (Option (Tp2 Int Int)))) else (someR x28).bind fun x34 => (m_number_at x34.a 0).bind fun x43 => (if (!(isNonD (enc x43))) = true then .ok (.rt x43) else .ok (.nx ())))) = if (fsC (cc 0 at_ (row.drop at_))).length < k then .ok (.rt none) else match numb 0 ((fsC (cc 0 at_ (row.drop at_))).take k) with
      | some x => .ok (.rt (tpN (some x)))
      | none => .ok (.nx ()) := fun k hk => by
    refine size_step hl ha hk _ _ _ rfl fun f e hf => ?_
    subst hf
    show (m_number_at _ 0).bind _ = _
    rw [num3 (by rw [List.length_take]; omega)]
    cases numb 0 ((fsC (cc 0 at_ (row.drop at_))).take k) <;> rfl
  unfold m_size_at
  show Res.bind (Res.bind ((m_unstuffed_from row (at_ : Int) ((1 : Nat) : Int)).bind _) _) _ = _
  rw [step 1 (by decide)]
  unfold sizeS
  by_cases c1 : (fsC (cc 0 at_ (row.drop at_))).length < 1
  · rw [if_pos c1, if_pos c1]
    rfl
  · rw [if_neg c1, if_neg c1]
    cases numb 0 ((fsC (cc 0 at_ (row.drop at_))).take 1) with
    | some x => rfl
    | none =>
      show Res.bind (Res.bind ((m_unstuffed_from row (at_ : Int) ((2 : Nat) : Int)).bind _) _) _ = _
      rw [step 2 (by decide)]
      by_cases c2 : (fsC (cc 0 at_ (row.drop at_))).length < 2
      · rw [if_pos c2]
        show _ = Res.ok (tpN (if _ then none else _))
        rw [if_pos c2]
        rfl
      · rw [if_neg c2]
        show _ = Res.ok (tpN (if _ then none else _))
        rw [if_neg c2]
        cases numb 0 ((fsC (cc 0 at_ (row.drop at_))).take 2) with
        | some x => rfl
        | none =>
          show Res.bind (Res.bind ((m_unstuffed_from row (at_ : Int) ((3 : Nat) : Int)).bind _) _) _ = _
          rw [step 3 (by decide)]
          by_cases c3 : (fsC (cc 0 at_ (row.drop at_))).length < 3
          · rw [if_pos c3]
            show _ = Res.ok (tpN (if _ then none else _))
            rw [if_pos c3]
            rfl
          · rw [if_neg c3]
            show _ = Res.ok (tpN (if _ then none else _))
            rw [if_neg c3]
            cases numb 0 ((fsC (cc 0 at_ (row.drop at_))).take 3) <;> rfl
/-- a size of the module's is the number of all contents -/
theorem size_numb {F : List Int} (hF : ∀ b ∈ F, Byt b) {x : Int × Nat} (hx : x.1 ≤ 60000) (hm : x.2 ≤ F.length) : sizeS F = some x ↔ numb 0 F = some x := by
  have tk : ∀ k, 0 < k → numb 0 (F.take k) = (numb 0 F).filter fun x => decide (x.2 ≤ k) := fun k h => numb_take h
  unfold sizeS
  rw [tk 1 (by decide), tk 2 (by decide), tk 3 (by decide)]
  cases e : numb 0 F with
  | none =>
    refine ⟨fun h => ?_, fun h => nomatch h⟩
    revert h
    show (if _ then none else (if _ then none else (if _ then none else none))) = some x → _
    split
    · exact fun h => nomatch h
    · split
      · exact fun h => nomatch h
      · split <;> exact fun h => nomatch h
  | some y =>
    have hy := numb_some e
    show (if F.length < 1 then none else match (if decide (y.2 ≤ 1) = true then some y else none) with
      | some x => some x
      | none => if F.length < 2 then none else match (if decide (y.2 ≤ 2) = true then some y else none) with
        | some x => some x
        | none => if F.length < 3 then none else if decide (y.2 ≤ 3) = true then some y else none) = some x ↔ _
    by_cases y1 : y.2 ≤ 1
    · rw [if_neg (by omega), if_pos (decide_eq_true y1)]
    · by_cases l1 : F.length < 1
      · rw [if_pos l1]
        exact ⟨fun h => (nomatch h), fun h => by cases h; omega⟩
      · rw [if_neg l1, if_neg (by rw [decide_eq_false y1]; decide)]
        show (if F.length < 2 then none else match (if decide (y.2 ≤ 2) = true then some y else none) with
          | some x => some x
          | none => if F.length < 3 then none else if decide (y.2 ≤ 3) = true then some y else none) = some x ↔ _
        by_cases l2 : F.length < 2
        · rw [if_pos l2]
          exact ⟨fun h => (nomatch h), fun h => by cases h; omega⟩
        · rw [if_neg l2]
          by_cases y2 : y.2 ≤ 2
          · rw [if_pos (decide_eq_true y2)]
          · rw [if_neg (by rw [decide_eq_false y2]; decide)]
            show (if F.length < 3 then none else if decide (y.2 ≤ 3) = true then some y else none) = some x ↔ _
            by_cases l3 : F.length < 3
            · rw [if_pos l3]
              exact ⟨fun h => (nomatch h), fun h => by cases h; omega⟩
            · rw [if_neg l3]
              by_cases y3 : y.2 ≤ 3
              · rw [if_pos (decide_eq_true y3)]
              · rw [if_neg (by rw [decide_eq_false y3]; decide)]
                exact ⟨fun h => (nomatch h), fun h => by cases h; exact absurd (numb_small hF e hx) y3⟩
theorem cc_byt : ∀ {s : List Int} {n : Int} {at_ : Nat}, (∀ b ∈ s, Byt b) → ∀ x ∈ cc n at_ s, Byt x.1
  | [], _, _, _ => fun _ m => nomatch m
  | b :: s, n, at_, h => fun x m => by
    have hs := fun y m => h y (List.mem_cons_of_mem b m)
    have m' : x ∈ (if n = 2 then (if b = 2 then (0, at_ + 1) :: cc 0 (at_ + 1) s else []) else if nb n b = 2 then cc 2 (at_ + 1) s else (b, at_ + 1) :: cc (nb n b) (at_ + 1) s : List (Int × Nat)) := m
    by_cases c : n = 2
    · rw [if_pos c] at m'
      by_cases d : b = 2
      · rw [if_pos d] at m'
        rcases List.mem_cons.mp m' with rfl | m'
        · show Byt 0
          exact ⟨by decide, by decide⟩
        · exact cc_byt hs x m'
      · rw [if_neg d] at m'
        exact nomatch m'
    · rw [if_neg c] at m'
      by_cases d : nb n b = 2
      · rw [if_pos d] at m'
        exact cc_byt hs x m'
      · rw [if_neg d] at m'
        rcases List.mem_cons.mp m' with rfl | m'
        · exact h _ List.mem_cons_self
        · exact cc_byt hs x m'
theorem cc_end : ∀ {s : List Int} {n : Int} {at_ : Nat}, ∀ x ∈ cc n at_ s, at_ < x.2 ∧ x.2 ≤ at_ + s.length
  | [], _, _ => fun _ m => nomatch m
  | b :: s, n, at_ => fun x m => by
    have m' : x ∈ (if n = 2 then (if b = 2 then (0, at_ + 1) :: cc 0 (at_ + 1) s else []) else if nb n b = 2 then cc 2 (at_ + 1) s else (b, at_ + 1) :: cc (nb n b) (at_ + 1) s : List (Int × Nat)) := m
    have ls : (b :: s).length = s.length + 1 := rfl
    have one : (x.1, x.2) = x := rfl
    by_cases c : n = 2
    · rw [if_pos c] at m'
      by_cases d : b = 2
      · rw [if_pos d] at m'
        rcases List.mem_cons.mp m' with rfl | m'
        · exact ⟨Nat.lt_succ_self _, by simp only; omega⟩
        · have := cc_end x m'
          omega
      · rw [if_neg d] at m'
        exact nomatch m'
    · rw [if_neg c] at m'
      by_cases d : nb n b = 2
      · rw [if_pos d] at m'
        have := cc_end x m'
        omega
      · rw [if_neg d] at m'
        rcases List.mem_cons.mp m' with rfl | m'
        · exact ⟨Nat.lt_succ_self _, by simp only; omega⟩
        · have := cc_end x m'
          omega
/-- the box at a place: its kind, its body, its end -/
def boxC (row : List Int) (k : Int) (C : List (Int × Nat)) : Option (Tp3 Int (List Int) Int) := match numb 0 (fsC C) with
  | none => none
  | some x => if 60000 < x.1 then none else if C.length < x.2 + x.1.toNat + 2 then none else
    match C[x.2 + x.1.toNat + 1]? with
    | none => none
    | some e => if ((fsC C).drop (x.2 + x.1.toNat)).take 2 = ckb k (((fsC C).drop x.2).take x.1.toNat) ∧ (row.drop e.2).take 1 = [255] then some ⟨k, ((fsC C).drop x.2).take x.1.toNat, (e.2 : Int) + 1⟩ else none
def boxS (row : List Int) (at_ : Nat) : Option (Tp3 Int (List Int) Int) := if hasStart row at_ = true then match row[at_ + 3]? with
    | none => none
    | some k => if 1 ≤ k ∧ k ≤ 9 then boxC row k (cc 0 (at_ + 4) (row.drop (at_ + 4))) else none
  else none
theorem ix_in {l : List Int} {i : Nat} {x : Int} (h : l[i]? = some x) : ixR l (i : Int) = .ok x := by
  have hi : i < l.length := by
    rcases Nat.lt_or_ge i l.length with h' | h'
    · exact h'
    · rw [List.getElem?_eq_none h'] at h; exact nomatch h
  have e : l.drop i = x :: l.drop (i + 1) := by
    rw [List.getElem?_eq_getElem hi] at h
    cases h
    exact List.drop_eq_getElem_cons hi
  exact (atR e).1
theorem fsC_len (C : List (Int × Nat)) : (fsC C).length = C.length := List.length_map ..
theorem box_l {row : List Int} {at_ : Nat} (hl : row.length ≤ 900000) (hb : ∀ b ∈ row, Byt b) (ha : at_ ≤ row.length) : l_box_at row (at_ : Int) = .ok (boxS row at_) := by
  unfold l_box_at boxS guardR
  rw [if_pos (ok_rows _ _), eq_rows, show cutL row (some (at_ : Int)) (some ((at_ : Int) + 3)) = (row.drop at_).take 3 from cut2 (i := at_) (j := 3) (by omega)]
  cases c : hasStart row at_
  · have c' := of_decide_eq_false c
    rw [if_pos (by rw [decide_eq_false c']; rfl), if_neg (by decide)]
  have c' := of_decide_eq_true c
  rw [if_neg (by rw [decide_eq_true c']; decide), if_pos rfl]
  by_cases h4 : (row.length : Int) < (at_ : Int) + 4
  · rw [if_pos (decide_eq_true h4), List.getElem?_eq_none (by omega)]
  rw [if_neg (by rw [decide_eq_false h4]; decide)]
  have i3 : row[at_ + 3]? = some row[at_ + 3] := List.getElem?_eq_getElem (by omega)
  have e3 : ixR row ((at_ : Int) + 3) = .ok row[at_ + 3] := ix_in (i := at_ + 3) i3
  have hk := hb _ (List.mem_of_getElem? i3)
  rw [i3]
  generalize row[at_ + 3] = k at e3 hk ⊢
  rw [e3]
  show (if decide (1 ≤ k) = true then (if decide (k ≤ 9) = true then (l_contents row ((at_ : Int) + 4)).bind _ else _) else _) = Res.ok (if 1 ≤ k ∧ k ≤ 9 then _ else none)
  by_cases k1 : 1 ≤ k
  case neg => rw [if_neg (by rw [decide_eq_false k1]; decide), if_neg fun z => k1 z.1]
  by_cases k9 : k ≤ 9
  case neg => rw [if_pos (decide_eq_true k1), if_neg (by rw [decide_eq_false k9]; decide), if_neg fun z => k9 z.2]
  rw [if_pos (decide_eq_true k1), if_pos (decide_eq_true k9), if_pos ⟨k1, k9⟩, show l_contents row ((at_ : Int) + 4) = _ from contents_l (at_ := at_ + 4) hl (by omega)]
  have hC : ∀ x ∈ cc 0 (at_ + 4) (row.drop (at_ + 4)), Byt x.1 := cc_byt fun b m => hb b (List.mem_of_mem_drop m)
  have hE : ∀ x ∈ cc 0 (at_ + 4) (row.drop (at_ + 4)), at_ + 4 < x.2 ∧ x.2 ≤ at_ + 4 + (row.drop (at_ + 4)).length := cc_end
  have hL := fs_len (s := row.drop (at_ + 4)) (n := 0) (at_ := at_ + 4)
  rw [List.length_drop] at hL hE
  generalize cc 0 (at_ + 4) (row.drop (at_ + 4)) = C at hC hE hL ⊢
  show (l_number_at (fsC C) ((0 : Nat) : Int)).bind _ = _
  rw [number_l (by rw [fsC_len]; omega)]
  unfold boxC
  show Res.bind (.ok (tpN (numb 0 (fsC C)))) _ = _
  cases en : numb 0 (fsC C) with
  | none => rfl
  | some x =>
    obtain ⟨v, j⟩ := x
    obtain ⟨v0, j0, jl⟩ := numb_some en
    simp only at v0 j0 jl
    show (if decide (60000 < v) = true then _ else (if decide (((fsC C).length : Int) < (j : Int) + v + 2) = true then _ else _)) = Res.ok (if 60000 < v then none else _)
    by_cases hv : 60000 < v
    · rw [if_pos (decide_eq_true hv), if_pos hv]
    rw [if_neg (by rw [decide_eq_false hv]; decide), if_neg hv, fsC_len]
    obtain ⟨v, rfl⟩ : ∃ n : Nat, v = (n : Int) := ⟨v.toNat, by omega⟩
    have vn : ((v : Int)).toNat = v := by omega
    simp only [vn]
    by_cases hn : C.length < j + v + 2
    · rw [if_pos (decide_eq_true (by omega)), if_pos hn]
    rw [if_neg (by rw [decide_eq_false (by omega)]; decide), if_neg hn]
    have ie : C[j + v + 1]? = some C[j + v + 1] := List.getElem?_eq_getElem (by omega)
    have he := hE _ (List.mem_of_getElem? ie)
    have is : ixR (snC C) ((j : Int) + (v : Int) + 2 - 1) = .ok ((C[j + v + 1].2 : Nat) : Int) := by
      rw [show (j : Int) + (v : Int) + 2 - 1 = ((j + v + 1 : Nat) : Int) by omega]
      refine ix_in ?_
      unfold snC
      rw [List.getElem?_map, ie]
      rfl
    rw [ie]
    generalize C[j + v + 1] = e at he is ⊢
    show (ixR (snC C) ((j : Int) + (v : Int) + 2 - 1)).bind _ = _
    rw [is]
    have cb : cutL (fsC C) (some (j : Int)) (some ((j : Int) + (v : Int) + 2 - 2)) = ((fsC C).drop j).take v := by
      rw [show (j : Int) + (v : Int) + 2 - 2 = ((j + v : Nat) : Int) by omega]
      exact cut2 (by omega)
    have ck : cutL (fsC C) (some ((j : Int) + (v : Int) + 2 - 2)) (some ((j : Int) + (v : Int) + 2)) = ((fsC C).drop (j + v)).take 2 := by
      rw [show (j : Int) + (v : Int) + 2 - 2 = ((j + v : Nat) : Int) by omega, show (j : Int) + (v : Int) + 2 = ((j + v + 2 : Nat) : Int) by omega]
      exact cut2 (by omega)
    have ce : cutL row (some (e.2 : Int)) (some ((e.2 : Int) + 1)) = (row.drop e.2).take 1 := cut2 (i := e.2) (j := 1) (by omega)
    show (if (([k] : List Int).length + (cutL (fsC C) (some (j : Int)) (some ((j : Int) + (v : Int) + 2 - 2))).length ≤ 1000000) then (l_sum (([k] : List Int) ++ cutL (fsC C) (some (j : Int)) (some ((j : Int) + (v : Int) + 2 - 2))) 1).bind (fun x158 => if okEq (enc (cutL (fsC C) (some ((j : Int) + (v : Int) + 2 - 2)) (some ((j : Int) + (v : Int) + 2)))) (enc ([x158 / 256, x158 % 256] : List Int)) then (if (!(eqD (enc (cutL (fsC C) (some ((j : Int) + (v : Int) + 2 - 2)) (some ((j : Int) + (v : Int) + 2)))) (enc ([x158 / 256, x158 % 256] : List Int)))) = true then .ok none else if okEq (enc (cutL row (some (e.2 : Int)) (some ((e.2 : Int) + 1)))) (enc ([255] : List Int)) then (if (!(eqD (enc (cutL row (some (e.2 : Int)) (some ((e.2 : Int) + 1)))) (enc ([255] : List Int)))) = true then .ok none else .ok (some (⟨k, cutL (fsC C) (some (j : Int)) (some ((j : Int) + (v : Int) + 2 - 2)), (e.2 : Int) + 1⟩ : Tp3 Int (List Int) Int))) else .stuck) else .stuck) else .stuck) = Res.ok (if ((fsC C).drop (j + v)).take 2 = ckb k (((fsC C).drop j).take v) ∧ (row.drop e.2).take 1 = [255] then _ else _)
    rw [cb, ck, ce, if_pos (by show 1 + _ ≤ _; rw [List.length_take, List.length_drop, fsC_len]; omega), sum_l]
    show (if okEq (enc _) (enc (ckb k (((fsC C).drop j).take v))) then (if (!(eqD (enc _) (enc (ckb k (((fsC C).drop j).take v))))) = true then _ else _) else _) = _
    rw [if_pos (ok_rows _ _), eq_rows, if_pos (ok_rows _ _), eq_rows]
    by_cases q1 : ((fsC C).drop (j + v)).take 2 = ckb k (((fsC C).drop j).take v)
    case neg => rw [if_pos (by rw [decide_eq_false q1]; rfl), if_neg fun z => q1 z.1]
    rw [if_neg (by rw [decide_eq_true q1]; decide)]
    by_cases q2 : (row.drop e.2).take 1 = [255]
    case neg => rw [if_pos (by rw [decide_eq_false q2]; rfl), if_neg fun z => q2 z.2]
    rw [if_neg (by rw [decide_eq_true q2]; decide), if_pos ⟨q1, q2⟩]
theorem cut_neg2 {l : List Int} {j v : Nat} (h : l.length = j + v + 2) : cutL l (some (j : Int)) (some (-2)) = (l.drop j).take v := by
  unfold cutL
  have e : HT.sIx l.length l.length (some (-2)) = l.length - 2 := by
    show (if (-2 : Int) < 0 then ((-2 : Int) + (l.length : Int)).toNat else min (-2 : Int).toNat l.length) = _
    rw [if_pos (by decide)]
    omega
  rw [e, HT.sIx_nat, show min j l.length = j by omega, show l.length - 2 - j = v by omega]
theorem cut_tail2 {l : List Int} {n : Nat} (h : l.length = n + 2) : cutL l (some (-2)) none = l.drop n := by
  unfold cutL
  have e : HT.sIx l.length 0 (some (-2)) = n := by
    show (if (-2 : Int) < 0 then ((-2 : Int) + (l.length : Int)).toNat else min (-2 : Int).toNat l.length) = _
    rw [if_pos (by decide)]
    omega
  rw [e, HT.sIx_none]
  exact List.take_of_length_le (by rw [List.length_drop]; omega)
theorem box_m {row : List Int} {at_ : Nat} (hl : row.length ≤ 900000) (hb : ∀ b ∈ row, Byt b) (ha : at_ ≤ row.length) : m_box_there row (at_ : Int) = .ok (boxS row at_) := by
  unfold m_box_there boxS
  rw [start_m hl ha]
  cases c : hasStart row at_
  · show Res.ok none = _
    rw [if_neg (by decide)]
  show (if decide ((row.length : Int) ≤ (at_ : Int) + 3) = true then _ else _) = _
  rw [if_pos rfl]
  by_cases h4 : (row.length : Int) < (at_ : Int) + 4
  · rw [if_pos (decide_eq_true (by omega)), List.getElem?_eq_none (by omega)]
  rw [if_neg (by rw [decide_eq_false (by omega)]; decide)]
  have i3 : row[at_ + 3]? = some row[at_ + 3] := List.getElem?_eq_getElem (by omega)
  have e3 : ixR row ((at_ : Int) + 3) = .ok row[at_ + 3] := ix_in (i := at_ + 3) i3
  have hk := hb _ (List.mem_of_getElem? i3)
  rw [i3]
  generalize row[at_ + 3] = k at e3 hk ⊢
  rw [e3]
  show (if decide (1 ≤ k) = true then (if decide (k ≤ 9) = true then (m_size_at row ((at_ : Int) + 4)).bind _ else _) else _) = Res.ok (if 1 ≤ k ∧ k ≤ 9 then _ else none)
  by_cases k1 : 1 ≤ k
  case neg => rw [if_neg (by rw [decide_eq_false k1]; decide), if_neg fun z => k1 z.1]
  by_cases k9 : k ≤ 9
  case neg => rw [if_pos (decide_eq_true k1), if_neg (by rw [decide_eq_false k9]; decide), if_neg fun z => k9 z.2]
  rw [if_pos (decide_eq_true k1), if_pos (decide_eq_true k9), if_pos ⟨k1, k9⟩, show m_size_at row ((at_ : Int) + 4) = _ from size_m (at_ := at_ + 4) hl (by omega)]
  have un : ∀ m : Nat, 0 < m → m_unstuffed_from row ((at_ : Int) + 4) (m : Int) = .ok (okU (((cc 0 (at_ + 4) (row.drop (at_ + 4)))[m - 1]?).map fun x => (((cc 0 (at_ + 4) (row.drop (at_ + 4))).take m).map (·.1), x.2))) := fun m hm => by
    rw [show m_unstuffed_from row ((at_ : Int) + 4) (m : Int) = _ from un_from (at_ := at_ + 4) (k := m) hl (by omega), uu0 hm]
  have hC : ∀ x ∈ cc 0 (at_ + 4) (row.drop (at_ + 4)), Byt x.1 := cc_byt fun b m => hb b (List.mem_of_mem_drop m)
  have hE : ∀ x ∈ cc 0 (at_ + 4) (row.drop (at_ + 4)), at_ + 4 < x.2 ∧ x.2 ≤ at_ + 4 + (row.drop (at_ + 4)).length := cc_end
  have hL := fs_len (s := row.drop (at_ + 4)) (n := 0) (at_ := at_ + 4)
  rw [List.length_drop] at hL hE
  generalize cc 0 (at_ + 4) (row.drop (at_ + 4)) = C at hC hE hL un ⊢
  have hF : ∀ b ∈ fsC C, Byt b := fun b m => by
    obtain ⟨x, mx, rfl⟩ := List.mem_map.mp m
    exact hC x mx
  have none_of : boxC row k C = none → Res.ok (none : Option (Tp3 Int (List Int) Int)) = .ok (boxC row k C) := fun h => by rw [h]
  -- what the module's size is not
  have bad : (∀ x, sizeS (fsC C) = some x → 60000 < x.1 ∨ C.length < x.2 + x.1.toNat + 2) → boxC row k C = none := fun h => by
    unfold boxC
    cases en : numb 0 (fsC C) with
    | none => rfl
    | some x =>
      have hx := numb_some en
      show (if 60000 < x.1 then none else if C.length < x.2 + x.1.toNat + 2 then none else _) = none
      by_cases hv : 60000 < x.1
      · rw [if_pos hv]
      rw [if_neg hv]
      by_cases hn : C.length < x.2 + x.1.toNat + 2
      · rw [if_pos hn]
      rcases h x ((size_numb hF (by omega) (by rw [fsC_len]; omega)).mpr en) with h | h
      · exact absurd h hv
      · exact absurd h hn
  cases es : sizeS (fsC C) with
  | none => exact none_of (bad fun x z => by rw [es] at z; exact nomatch z)
  | some x =>
    have q := bad
    rw [es] at q
    obtain ⟨v, j⟩ := x
    have vj : 0 ≤ v ∧ 0 < j := by
      have tk : ∀ k, numb 0 ((fsC C).take k) = some (v, j) → 0 ≤ v ∧ 0 < j := fun k h => by
        have := numb_some h
        exact ⟨this.1, this.2.1⟩
      unfold sizeS at es
      by_cases c1 : (fsC C).length < 1
      · rw [if_pos c1] at es; exact nomatch es
      rw [if_neg c1] at es
      cases e1 : numb 0 ((fsC C).take 1) with
      | some y => rw [e1] at es; cases es; exact tk _ e1
      | none =>
        rw [e1] at es
        have es : (if (fsC C).length < 2 then none else match numb 0 ((fsC C).take 2) with
          | some x => some x
          | none => if (fsC C).length < 3 then none else numb 0 ((fsC C).take 3)) = some (v, j) := es
        by_cases c2 : (fsC C).length < 2
        · rw [if_pos c2] at es; exact nomatch es
        rw [if_neg c2] at es
        cases e2 : numb 0 ((fsC C).take 2) with
        | some y => rw [e2] at es; cases es; exact tk _ e2
        | none =>
          rw [e2] at es
          have es : (if (fsC C).length < 3 then none else numb 0 ((fsC C).take 3)) = some (v, j) := es
          by_cases c3 : (fsC C).length < 3
          · rw [if_pos c3] at es; exact nomatch es
          rw [if_neg c3] at es
          exact tk _ es
    obtain ⟨v0, j0⟩ := vj
    show (if decide (60000 < v) = true then _ else (m_unstuffed_from row ((at_ : Int) + 4) ((j : Int) + v + 2)).bind _) = _
    by_cases hv : 60000 < v
    · rw [if_pos (decide_eq_true hv)]
      exact none_of (q fun x z => by cases z; exact .inl hv)
    rw [if_neg (by rw [decide_eq_false hv]; decide)]
    obtain ⟨v, rfl⟩ : ∃ n : Nat, v = (n : Int) := ⟨v.toNat, by omega⟩
    have vn : ((v : Int)).toNat = v := by omega
    rw [show (j : Int) + (v : Int) + 2 = ((j + v + 2 : Nat) : Int) by omega, un _ (by omega)]
    by_cases hn : C.length < j + v + 2
    · rw [List.getElem?_eq_none (by omega)]
      exact none_of (q fun x z => by cases z; exact .inr hn)
    have en : numb 0 (fsC C) = some ((v : Int), j) := by
      refine (size_numb hF (by simp only; omega) (by rw [fsC_len]; simp only; omega)).mp es
    unfold boxC
    rw [en]
    show _ = Res.ok (if 60000 < (v : Int) then none else if C.length < j + (v : Int).toNat + 2 then none else _)
    rw [if_neg hv, vn, if_neg hn]
    have ie : C[j + v + 1]? = some C[j + v + 1] := List.getElem?_eq_getElem (by omega)
    have he := hE _ (List.mem_of_getElem? ie)
    rw [show j + v + 2 - 1 = j + v + 1 by omega, ie]
    generalize C[j + v + 1] = e at he ⊢
    have lt2 : ((C.take (j + v + 2)).map (·.1)).length = j + v + 2 := by rw [List.length_map, List.length_take]; omega
    have cb : cutL ((C.take (j + v + 2)).map (·.1)) (some (j : Int)) (some (-2)) = ((fsC C).drop j).take v := by
      rw [cut_neg2 lt2, List.map_take, List.drop_take, List.take_take]
      exact congrArg (fun n => ((fsC C).drop j).take n) (by omega)
    have ck : cutL ((C.take (j + v + 2)).map (·.1)) (some (-2)) none = ((fsC C).drop (j + v)).take 2 := by
      rw [cut_tail2 lt2, List.map_take, List.drop_take]
      exact congrArg (fun n => ((fsC C).drop (j + v)).take n) (by omega)
    have ce : cutL row (some (e.2 : Int)) (some ((e.2 : Int) + 1)) = (row.drop e.2).take 1 := cut2 (i := e.2) (j := 1) (by omega)
    show (if okEq (enc (cutL row (some (e.2 : Int)) (some ((e.2 : Int) + 1)))) (enc ([255] : List Int)) then (if (!(eqD (enc (cutL row (some (e.2 : Int)) (some ((e.2 : Int) + 1)))) (enc ([255] : List Int)))) = true then .ok none else (m_check_bytes k (cutL ((C.take (j + v + 2)).map (·.1)) (some (j : Int)) (some (-2)))).bind fun x134 => if okEq (enc (cutL ((C.take (j + v + 2)).map (·.1)) (some (-2)) none)) (enc x134) then (if (!(eqD (enc (cutL ((C.take (j + v + 2)).map (·.1)) (some (-2)) none)) (enc x134))) = true then .ok none else .ok (some (⟨k, cutL ((C.take (j + v + 2)).map (·.1)) (some (j : Int)) (some (-2)), (e.2 : Int) + 1⟩ : Tp3 Int (List Int) Int))) else .stuck) else .stuck) = Res.ok (if ((fsC C).drop (j + v)).take 2 = ckb k (((fsC C).drop j).take v) ∧ (row.drop e.2).take 1 = [255] then _ else _)
    rw [cb, ck, ce, if_pos (ok_rows _ _), eq_rows]
    by_cases q2 : (row.drop e.2).take 1 = [255]
    case neg => rw [if_pos (by rw [decide_eq_false q2]; rfl), if_neg fun z => q2 z.2]
    rw [if_neg (by rw [decide_eq_true q2]; decide), ckb_m (by rw [List.length_take, List.length_drop, fsC_len]; omega) hk fun b m => hF b (List.mem_of_mem_drop (List.mem_of_mem_take m))]
    show (if okEq _ _ then (if (!(eqD (enc _) (enc _))) = true then _ else _) else _) = _
    rw [if_pos (ok_rows _ _), eq_rows]
    by_cases q1 : ((fsC C).drop (j + v)).take 2 = ckb k (((fsC C).drop j).take v)
    case neg => rw [if_pos (by rw [decide_eq_false q1]; rfl), if_neg fun z => q1 z.1]
    rw [if_neg (by rw [decide_eq_true q1]; decide), if_pos ⟨q1, q2⟩]
/-! # all boxes of a row -/
abbrev In3 := Tp3 Int Int (List Int)
def hBox (row : List Int) (x : Int) : Option In3 := (boxS row x.toNat).map fun b => ⟨x, b.a, b.b⟩
def BL (row : List Int) : List In3 := (rngI 0 (row.length : Int)).filterMap (hBox row)
theorem for_fm {α β R : Type} {f : α → List β → Res (Fl (List β) R)} {h : α → Option β} : ∀ {l : List α} {acc : List β}, acc.length + l.length < 1000000 → (∀ x ∈ l, ∀ acc : List β, acc.length < 1000000 → f x acc = .ok (.nx (acc ++ (h x).toList))) → forR l acc f = .ok (.nx (acc ++ l.filterMap h))
  | [], acc, _, _ => by
    rw [List.filterMap_nil, List.append_nil]
    rfl
  | x :: l, acc, hl, hf => by
    have hl' : acc.length + (l.length + 1) < 1000000 := hl
    show (Res.bind (f x acc) _) = _
    rw [hf x List.mem_cons_self acc (by omega)]
    show forR l (acc ++ (h x).toList) f = _
    have : (h x).toList.length ≤ 1 := by cases h x <;> simp
    rw [for_fm (by rw [List.length_append]; omega) fun y m => hf y (List.mem_cons_of_mem _ m)]
    cases e : h x with
    | none => rw [List.filterMap_cons_none e]; rw [show (none : Option β).toList = [] from rfl, List.append_nil]
    | some y => rw [List.filterMap_cons_some e]; rw [List.append_assoc]; rfl
theorem compL_fm {α β : Type} {f : α → Unit → Res (Option β × Unit)} {g : α → Option β} : ∀ {l : List α}, (∀ x ∈ l, f x () = .ok (g x, ())) → compL l () f = .ok (l.filterMap g, ())
  | [], _ => rfl
  | x :: l, h => by
    show (Res.bind (f x ()) _) = _
    rw [h x List.mem_cons_self]
    show (Res.bind (compL l () f) _) = _
    rw [compL_fm fun y m => h y (List.mem_cons_of_mem _ m)]
    cases e : g x with
    | none => rw [List.filterMap_cons_none e]; rfl
    | some y => rw [List.filterMap_cons_some e]; rfl
theorem compR_fm {α β : Type} {f : α → Unit → Res (Option β × Unit)} {g : α → Option β} {l : List α} (hl : l.length ≤ 1000000) (h : ∀ x ∈ l, f x () = .ok (g x, ())) : compR l () f = .ok (l.filterMap g, ()) := by
  have e : compR l () f = guardR (l.length ≤ 1000000) (compL l () f) := rfl
  rw [e]
  unfold guardR
  rw [if_pos hl, compL_fm h]
theorem mem_rg {lo hi x : Int} (h : x ∈ rngI lo hi) : lo ≤ x ∧ x < hi := by
  unfold rngI at h
  obtain ⟨i, m, rfl⟩ := List.mem_map.mp h
  have := List.mem_range.mp m
  omega
theorem rg_mem {lo hi x : Int} (h : lo ≤ x) (h' : x < hi) : x ∈ rngI lo hi := by
  unfold rngI
  exact List.mem_map.mpr ⟨(x - lo).toNat, List.mem_range.mpr (by omega), by omega⟩
theorem rg_len (lo hi : Int) : (rngI lo hi).length = (hi - lo).toNat := by unfold rngI; simp
theorem start_len {row : List Int} {at_ : Nat} (h : hasStart row at_ = true) : at_ + 3 ≤ row.length := by
  have := congrArg List.length (of_decide_eq_true h)
  rw [List.length_take, List.length_drop] at this
  have e : ([0, 0, 1] : List Int).length = 3 := rfl
  omega
theorem start_zero {row : List Int} {at_ : Nat} (h : hasStart row at_ = true) : row[at_]? = some 0 := by
  have := congrArg (fun l : List Int => l[0]?) (of_decide_eq_true h)
  rw [← Nat.add_zero at_, ← List.getElem?_drop]
  rw [List.getElem?_take_of_lt (by decide)] at this
  exact this
theorem no_box {row : List Int} {at_ : Nat} (h : hasStart row at_ = false) : boxS row at_ = none := by
  unfold boxS
  rw [h]
  rfl
theorem BL_short (row : List Int) : (rngI 0 ((row.length : Int) - 2)).filterMap (hBox row) = BL row := by
  unfold BL
  have snoc : ∀ n : Nat, rngI 0 ((n : Int) + 1) = rngI 0 (n : Int) ++ [(n : Int)] := fun n => by
    unfold rngI
    rw [show ((n : Int) + 1 - 0).toNat = n + 1 by omega, show ((n : Int) - 0).toNat = n by omega, List.range_succ, List.map_append]
    show _ ++ [0 + (n : Int)] = _
    rw [Int.zero_add]
  have nob : ∀ n : Nat, row.length < n + 3 → hBox row (n : Int) = none := fun n h => by
    unfold hBox
    rw [show ((n : Int)).toNat = n by omega]
    cases c : hasStart row n with
    | true => have := start_len c; omega
    | false => rw [no_box c]; rfl
  rcases Nat.lt_or_ge row.length 2 with h | h
  · rw [rngI_nil (show (row.length : Int) - 2 ≤ 0 by omega)]
    have : row.length = 0 ∨ row.length = 1 := by omega
    rcases this with h | h
    · rw [h, rngI_nil (by decide)]
    · rw [h, show (((1 : Nat)) : Int) = ((0 : Nat) : Int) + 1 from rfl, snoc, List.filterMap_append, rngI_nil (by decide), List.filterMap_cons_none (nob 0 (by omega))]
      rfl
  · obtain ⟨n, hn⟩ : ∃ n, row.length = n + 2 := ⟨row.length - 2, by omega⟩
    rw [hn, show ((n + 2 : Nat) : Int) - 2 = (n : Int) by omega, show ((n + 2 : Nat) : Int) = ((n + 1 : Nat) : Int) + 1 by omega, snoc, show ((n + 1 : Nat) : Int) = (n : Int) + 1 by omega, snoc, List.filterMap_append, List.filterMap_append, List.filterMap_cons_none (nob n (by omega)), show (n : Int) + 1 = ((n + 1 : Nat) : Int) by omega, List.filterMap_cons_none (nob (n + 1) (by omega))]
    simp
theorem starts_m {row : List Int} (hl : row.length ≤ 900000) : m_starts_in row = .ok ((rngI 0 ((row.length : Int) - 2)).filterMap fun x => if hasStart row x.toNat = true then some x else none) := by
  unfold m_starts_in guardR
  rw [if_pos (by omega), compR_fm (g := fun x => if hasStart row x.toNat = true then some x else none) (by rw [rg_len]; omega) fun x m => ?_]
  · rfl
  · have := mem_rg m
    obtain ⟨i, rfl⟩ : ∃ i : Nat, x = (i : Int) := ⟨x.toNat, by omega⟩
    have ix : row[i]? = some row[i] := List.getElem?_eq_getElem (by omega)
    rw [ix_in ix, show ((i : Int)).toNat = i by omega]
    show (if decide (row[i] = 0) = true then (m_stands_start row (i : Int)).bind _ else _) = _
    rw [start_m hl (by omega)]
    cases c : hasStart row i with
    | false => by_cases h : row[i] = 0
               · rw [if_pos (decide_eq_true h)]; rfl
               · rw [if_neg (by rw [decide_eq_false h]; decide)]; rfl
    | true =>
      have := start_zero c
      rw [ix] at this
      rw [if_pos (decide_eq_true (Option.some.inj this))]
      rfl
theorem boxes_m {row : List Int} (hl : row.length ≤ 900000) (hb : ∀ b ∈ row, Byt b) : m_boxes_in row = .ok (BL row) := by
  unfold m_boxes_in
  rw [sure_row (by omega) hb, starts_m hl, ← BL_short]
  show Res.bind (forR _ _ _) _ = _
  have le : ((rngI 0 ((row.length : Int) - 2)).filterMap fun x => if hasStart row x.toNat = true then some x else none).length ≤ 900000 := Nat.le_trans (List.length_filterMap_le _ _) (by rw [rg_len]; omega)
  rw [for_fm (h := hBox row) (by show 0 + _ < _; omega) fun x m acc hacc => ?_]
  · show Res.ok ([] ++ _) = _
    rw [List.nil_append, List.filterMap_filterMap]
    refine congrArg Res.ok (congrArg (fun f => List.filterMap f _) (funext fun x => ?_))
    cases c : hasStart row x.toNat with
    | true => rfl
    | false => unfold hBox; rw [no_box c]; rfl
  · obtain ⟨y, my, e⟩ := List.mem_filterMap.mp m
    have hy := mem_rg my
    have : x = y := by
      cases c : hasStart row y.toNat
      · rw [c] at e; exact nomatch e
      · rw [c] at e; exact (Option.some.inj e).symm
    subst this
    obtain ⟨i, rfl⟩ : ∃ i : Nat, x = (i : Int) := ⟨x.toNat, by omega⟩
    rw [box_m hl hb (by omega)]
    unfold hBox
    rw [show ((i : Int)).toNat = i by omega]
    cases boxS row i with
    | none => show Res.ok (Fl.nx acc) = .ok (Fl.nx (acc ++ [])); rw [List.append_nil]
    | some b =>
      show guardR (acc.length < 1000000) _ = _
      unfold guardR
      rw [if_pos hacc]
      rfl
theorem boxes_l {row : List Int} (hl : row.length ≤ 900000) (hb : ∀ b ∈ row, Byt b) : l_boxes_in row = .ok (BL row) := by
  unfold l_boxes_in guardR
  rw [if_pos (by omega), for_fm (h := hBox row) (by rw [rg_len]; show 0 + _ < _; omega) fun x m acc hacc => ?_]
  · rfl
  · have hx := mem_rg m
    obtain ⟨i, rfl⟩ : ∃ i : Nat, x = (i : Int) := ⟨x.toNat, by omega⟩
    rw [box_l hl hb (by omega)]
    unfold hBox
    rw [show ((i : Int)).toNat = i by omega]
    cases boxS row i with
    | none => show Res.ok (Fl.nx acc) = .ok (Fl.nx (acc ++ [])); rw [List.append_nil]
    | some b =>
      show guardR (acc.length < 1000000) _ = _
      unfold guardR
      rw [if_pos hacc]
      rfl
/-! # a box that was laid is there -/
theorem cc_st : ∀ (l : List Int) (n : Int) (at_ : Nat) (r : List Int), n = 0 ∨ n = 1 → ∃ P n', (n' = 0 ∨ n' = 1) ∧ cc n at_ (stL n l ++ r) = P ++ cc n' (at_ + (stL n l).length) r ∧ fsC P = l ∧ ∀ x, l ≠ [] → P[l.length - 1]? = some x → x.2 = at_ + (stL n l).length
  | [], n, at_, r, h => ⟨[], n, h, rfl, rfl, fun _ z => absurd rfl z⟩
  | b :: l, n, at_, r, h => by
    by_cases c : nb n b = 2
    · obtain ⟨P, n', h', e, ef, el⟩ := cc_st l 0 (at_ + 1 + 1) r (.inl rfl)
      rw [st_two c]
      refine ⟨(0, at_ + 1 + 1) :: P, n', h', ?_, ?_, fun x _ hx => ?_⟩
      · show cc n at_ (b :: 2 :: (stL 0 l ++ r)) = _
        rw [cc_wait h c, cc_two, if_pos rfl, e]
        show _ = (0, at_ + 1 + 1) :: (P ++ cc n' (at_ + ((stL 0 l).length + 1 + 1)) r)
        rw [show at_ + 1 + 1 + (stL 0 l).length = at_ + ((stL 0 l).length + 1 + 1) by omega]
      · show (0 : Int) :: fsC P = _
        rw [ef, nb2 h c]
      · show x.2 = at_ + ((stL 0 l).length + 1 + 1)
        cases l with
        | nil => cases hx; rfl
        | cons d l =>
          have := el x (by simp) hx
          omega
    · obtain ⟨P, n', h', e, ef, el⟩ := cc_st l (nb n b) (at_ + 1) r (nb01 h c)
      rw [st_one c]
      refine ⟨(b, at_ + 1) :: P, n', h', ?_, ?_, fun x _ hx => ?_⟩
      · show cc n at_ (b :: (stL (nb n b) l ++ r)) = _
        rw [cc_go h c, e]
        show _ = (b, at_ + 1) :: (P ++ cc n' (at_ + ((stL (nb n b) l).length + 1)) r)
        rw [show at_ + 1 + (stL (nb n b) l).length = at_ + ((stL (nb n b) l).length + 1) by omega]
      · show b :: fsC P = _
        rw [ef]
      · show x.2 = at_ + ((stL (nb n b) l).length + 1)
        cases l with
        | nil => cases hx; rfl
        | cons d l =>
          have := el x (by simp) hx
          omega
/-- a box, byte for byte -/
def bxF (k : Int) (fg b : List Int) : List Int := ([0, 0, 1, k] ++ stL 0 ((fg ++ b) ++ ckb k b)) ++ [255]
/-- figures that are read as a number -/
def Fig (v : Nat) (fg : List Int) : Prop := (∀ r, numb 0 (fg ++ r) = some ((v : Int), fg.length)) ∧ ∀ b ∈ fg, Byt b
theorem fig_small {v : Nat} (h : v < 128) : Fig v [(v : Int)] := by
  refine ⟨fun r => ?_, fun b m => ?_⟩
  · show numb 0 ((v : Int) :: r) = _
    unfold numb
    rw [if_neg (fun z => by have : ((v : Int)) = 128 := by injection z
                            omega)]
    show (if GRT < 0 * 128 + (v : Int) % 128 then none else if (v : Int) < 128 then some (0 * 128 + (v : Int) % 128, 1) else _) = _
    have e : (0 : Int) * 128 + (v : Int) % 128 = (v : Int) := by omega
    rw [e, if_neg (show ¬ GRT < (v : Int) by unfold GRT; omega), if_pos (by omega)]
    rfl
  · rw [List.mem_singleton.mp m]
    exact ⟨by omega, by omega⟩
theorem box_bx {pre post fg b : List Int} {k : Int} (hk : 1 ≤ k ∧ k ≤ 9) (hf : Fig b.length fg) (hl : b.length ≤ 60000) : boxS ((pre ++ bxF k fg b) ++ post) pre.length = some ⟨k, b, ((pre.length + (bxF k fg b).length : Nat) : Int)⟩ := by
  have ec : ∀ {l : List Int}, l = (fg ++ b) ++ ckb k b → boxS ((pre ++ (([0, 0, 1, k] ++ stL 0 l) ++ [255])) ++ post) pre.length = some ⟨k, b, ((pre.length + (([0, 0, 1, k] ++ stL 0 l) ++ [255]).length : Nat) : Int)⟩ := fun {l} hlq => by
    have er : (pre ++ (([0, 0, 1, k] ++ stL 0 l) ++ [255])) ++ post = pre ++ (0 :: 0 :: 1 :: k :: (stL 0 l ++ 255 :: post)) := by simp
    have ln : l ≠ [] := fun z => by
      have := congrArg List.length (hlq.symm.trans z)
      rw [List.length_append] at this
      have e2 : (ckb k b).length = 2 := rfl
      have e3 : ([] : List Int).length = 0 := rfl
      omega
    have ll : l.length = fg.length + b.length + 2 := by rw [hlq, List.length_append, List.length_append]; rfl
    rw [er]
    have d0 : ∀ r : List Int, (pre ++ r).drop pre.length = r := fun r => by rw [List.drop_append_of_le_length (Nat.le_refl _), List.drop_length, List.nil_append]
    have d4 : (pre ++ (0 :: 0 :: 1 :: k :: (stL 0 l ++ 255 :: post))).drop (pre.length + 4) = stL 0 l ++ 255 :: post := by
      rw [← List.drop_drop, d0]
      rfl
    have i3 : (pre ++ (0 :: 0 :: 1 :: k :: (stL 0 l ++ 255 :: post)))[pre.length + 3]? = some k := by
      rw [← List.getElem?_drop, d0]
      rfl
    have hs : hasStart (pre ++ (0 :: 0 :: 1 :: k :: (stL 0 l ++ 255 :: post))) pre.length = true := by
      unfold hasStart
      rw [d0]
      exact decide_eq_true rfl
    unfold boxS
    rw [if_pos hs, i3, d4]
    show (if 1 ≤ k ∧ k ≤ 9 then _ else _) = _
    rw [if_pos hk]
    obtain ⟨P, n', h', eC, ef, el⟩ := cc_st l 0 (pre.length + 4) (255 :: post) (.inl rfl)
    rw [eC]
    have lP : P.length = l.length := by rw [← fsC_len, ef]
    have eF : ∀ R, fsC (P ++ R) = (fg ++ b) ++ (ckb k b ++ fsC R) := fun R => by
      unfold fsC at ef ⊢
      rw [List.map_append, ef, hlq]
      simp
    generalize cc n' _ (255 :: post) = R
    have eF := eF R
    unfold boxC
    rw [eF, List.append_assoc, hf.1]
    show (if 60000 < ((b.length : Nat) : Int) then none else if (P ++ R).length < fg.length + ((b.length : Nat) : Int).toNat + 2 then none else _) = _
    rw [if_neg (by omega), show (((b.length : Nat) : Int)).toNat = b.length by omega, if_neg (by rw [List.length_append]; omega)]
    have i1 : (P ++ R)[fg.length + b.length + 1]? = some P[fg.length + b.length + 1] := by
      rw [List.getElem?_append_left (by omega), List.getElem?_eq_getElem (by omega)]
    have he := el P[fg.length + b.length + 1] ln (by rw [ll, show fg.length + b.length + 2 - 1 = fg.length + b.length + 1 by omega, List.getElem?_eq_getElem (by omega)])
    rw [i1]
    generalize P[fg.length + b.length + 1] = e at he
    have q0 : (fg ++ (b ++ (ckb k b ++ fsC R))).drop fg.length = b ++ (ckb k b ++ fsC R) := by rw [List.drop_append_of_le_length (Nat.le_refl _), List.drop_length, List.nil_append]
    have q1 : ((fg ++ (b ++ (ckb k b ++ fsC R))).drop fg.length).take b.length = b := by
      rw [q0, List.take_append_of_le_length (Nat.le_refl _), List.take_length]
    have q2 : ((fg ++ (b ++ (ckb k b ++ fsC R))).drop (fg.length + b.length)).take 2 = ckb k b := by
      rw [← List.drop_drop, q0, List.drop_append_of_le_length (Nat.le_refl _), List.drop_length, List.nil_append]
      rfl
    have q3 : ((pre ++ (0 :: 0 :: 1 :: k :: (stL 0 l ++ 255 :: post))).drop e.2).take 1 = [255] := by
      rw [he, ← List.drop_drop, d4, List.drop_append_of_le_length (Nat.le_refl _), List.drop_length, List.nil_append]
      rfl
    show (if ((fg ++ (b ++ (ckb k b ++ fsC R))).drop (fg.length + b.length)).take 2 = ckb k (((fg ++ (b ++ (ckb k b ++ fsC R))).drop fg.length).take b.length) ∧ ((pre ++ (0 :: 0 :: 1 :: k :: (stL 0 l ++ 255 :: post))).drop e.2).take 1 = [255] then some (⟨k, ((fg ++ (b ++ (ckb k b ++ fsC R))).drop fg.length).take b.length, (e.2 : Int) + 1⟩ : Tp3 Int (List Int) Int) else none) = _
    rw [q1, q2, q3, if_pos ⟨rfl, rfl⟩, he]
    refine congrArg some (congrArg (Tp3.mk k b) ?_)
    rw [List.length_append, List.length_append]
    show ((pre.length + 4 + (stL 0 l).length : Nat) : Int) + 1 = ((pre.length + (4 + (stL 0 l).length + 1) : Nat) : Int)
    omega
  exact ec rfl
end A

set_option Elab.async false
set_option linter.all false
set_option maxRecDepth 100000
set_option maxHeartbeats 2000000
namespace A
open PySem PySem.Spec PyProof.Rows L2 Y
open Y.Enc (enc)
/-! # boxes that the law lays -/
def bx (k : Int) (b : List Int) : List Int := bxF k [(b.length : Int)] b
theorem ckb_byt {k : Int} {b : List Int} : ∀ x ∈ ckb k b, Byt x := fun x m => by
  have h : ∀ (l : List Int) (n : Int), 0 ≤ n → n < 65521 → 0 ≤ sumB l n ∧ sumB l n < 65521 := by
    intro l
    induction l with
    | nil => exact fun n h0 h1 => ⟨h0, h1⟩
    | cons b l ih => exact fun n h0 h1 => ih ((n * 257 + b) % 65521) (Int.emod_nonneg _ (by decide)) (Int.emod_lt_of_pos _ (by decide))
  obtain ⟨h0, h1⟩ := h (k :: b) 1 (by decide) (by decide)
  unfold ckb at m
  generalize sumB (k :: b) 1 = s at *
  rcases List.mem_cons.mp m with rfl | m
  · exact ⟨by omega, by omega⟩
  · rw [List.mem_singleton.mp m]
    exact ⟨by omega, by omega⟩
theorem bxF_len {k : Int} {fg b : List Int} : (bxF k fg b).length ≤ 9 + 2 * (fg.length + b.length) ∧ 5 ≤ (bxF k fg b).length := by
  unfold bxF
  have := st_len ((fg ++ b) ++ ckb k b) 0
  rw [List.length_append, List.length_append] at this
  have e : (ckb k b).length = 2 := rfl
  rw [List.length_append, List.length_append]
  show 4 + _ + 1 ≤ _ ∧ 5 ≤ 4 + _ + 1
  omega
theorem bxF_byt {k : Int} {fg b : List Int} (hk : Byt k) (hf : ∀ x ∈ fg, Byt x) (hb : ∀ x ∈ b, Byt x) : ∀ x ∈ bxF k fg b, Byt x := by
  unfold bxF
  refine byt_app (byt_app (fun x m => ?_) (st_byt _ 0 (byt_app (byt_app hf hb) ckb_byt))) fun x m => ?_
  · have z : Byt 0 := ⟨by decide, by decide⟩
    have o : Byt 1 := ⟨by decide, by decide⟩
    simp only [List.mem_cons, List.not_mem_nil, or_false] at m
    rcases m with rfl | rfl | rfl | rfl
    · exact z
    · exact z
    · exact o
    · exact hk
  · rw [List.mem_singleton.mp m]
    exact ⟨by decide, by decide⟩
theorem figures_small {n : Nat} (h : n < 128) : l_figures (n : Int) = .ok [(n : Int)] := by
  unfold l_figures
  show Res.bind (Res.bind (if decide (128 ≤ (n : Int)) = true then _ else _) _) _ = _
  rw [if_neg (by rw [decide_eq_false (by omega)]; decide)]
  show Res.ok [(n : Int) % 128] = _
  rw [show (n : Int) % 128 = (n : Int) by omega]
theorem boxed_l {k : Int} {b : List Int} (hl : b.length < 128) : l_boxed k b = .ok (bx k b) := by
  unfold l_boxed
  rw [figures_small hl]
  show guardR _ _ = _
  unfold guardR
  rw [if_pos (by show 1 + _ ≤ _; omega), if_pos (by show 1 + _ ≤ _; omega), sum_l]
  have e : (([(b.length : Int)] ++ b) ++ ckb k b).length = b.length + 3 := by rw [List.length_append, List.length_append]; show 1 + b.length + 2 = _; omega
  show (if ([(b.length : Int)] ++ b).length + 2 ≤ 1000000 then (l_stuffed (([(b.length : Int)] ++ b) ++ ckb k b)).bind _ else _) = _
  rw [if_pos (by rw [List.length_append]; show 1 + b.length + 2 ≤ _; omega), stuffed_l (by omega)]
  have s := st_len (([(b.length : Int)] ++ b) ++ ckb k b) 0
  show (if 4 + (stL 0 (([(b.length : Int)] ++ b) ++ ckb k b)).length ≤ 1000000 then (if _ then _ else _) else _) = _
  rw [if_pos (by omega), if_pos (by rw [List.length_append]; show 4 + _ + 1 ≤ _; omega)]
  rfl
theorem cut_take {l : List Int} {n : Nat} (h : n ≤ l.length) : cutL l none (some (n : Int)) = l.take n := by
  unfold cutL
  rw [HT.sIx_nat, HT.sIx_none, show min n l.length = n by omega]
  rfl
theorem cut_drop {l : List Int} {n : Nat} (h : n ≤ l.length) : cutL l (some (n : Int)) none = l.drop n := by
  unfold cutL
  rw [HT.sIx_nat, HT.sIx_none, show min n l.length = n by omega]
  exact List.take_of_length_le (by rw [List.length_drop]; omega)
/-! # found as the law tells them -/
theorem eqOk_ints' (l : List Int) (n : Nat) : eqOk (n + 1) (enc l) = true := eqOk_ints l n
theorem eqOk_in3 (x : In3) : eqOk 19 (enc x) = true := by
  show (true && (true && (eqOk 18 (enc x.c) && true))) = true
  rw [eqOk_ints' x.c 17]
  rfl
theorem eqOk_list {α : Type} [Enc α] {n : Nat} : ∀ {l : List α}, (∀ x ∈ l, eqOk n (enc x) = true) → eqOks n (l.map enc) = true
  | [], _ => rfl
  | x :: l, h => by
    show (eqOk n (enc x) && eqOks n (l.map enc)) = true
    rw [h x List.mem_cons_self, eqOk_list fun y m => h y (List.mem_cons_of_mem _ m)]
    rfl
theorem eqOk_in3s (l : List In3) : eqOk 20 (enc l) = true := eqOk_list fun x _ => eqOk_in3 x
end A

set_option Elab.async false
set_option linter.all false
set_option maxRecDepth 100000
set_option maxHeartbeats 2000000
namespace A
open PySem PySem.Spec PyProof.Rows L2 Y
open Y.Enc (enc)
/-! # within a box no other begins -/
theorem cc_no : ∀ (n : Nat) (s : List Int), s.length ≤ n → ∀ (z : Int) (at_ m : Nat) (x : Int × Nat), (z = 0 ∨ z = 1) → (cc z at_ s)[m]? = some x → ∀ j, at_ + j + 2 < x.2 → s[j]? = some 0 → s[j + 1]? = some 0 → s[j + 2]? = some 1 → False
  | n, [], _, z, at_, m, x, hz, hx, j, hj, h0, h1, h2 => nomatch h0
  | 0, b :: s, hn, _, _, _, _, _, _, _, _, _, _, _ => absurd hn (Nat.not_succ_le_zero _)
  | n + 1, b :: s, hn, z, at_, m, x, hz, hx, j, hj, h0, h1, h2 => by
    have hn' : s.length ≤ n := Nat.le_of_succ_le_succ hn
    by_cases c : nb z b = 2
    · rw [cc_wait hz c] at hx
      cases s with
      | nil => exact nomatch hx
      | cons d s =>
        rw [cc_two] at hx
        by_cases e : d = 2
        · rw [if_pos e] at hx
          cases m with
          | zero => cases hx; simp only at hj; omega
          | succ m =>
            match j, h0, h1, h2 with
            | 0, h0, h1, h2 => rw [e] at h1; exact nomatch h1
            | 1, h0, h1, h2 => rw [e] at h0; exact nomatch h0
            | j + 2, h0, h1, h2 => exact cc_no n s (by have : s.length + 1 ≤ n := hn'; omega) 0 (at_ + 1 + 1) m x (.inl rfl) hx j (by omega) h0 h1 h2
        · rw [if_neg e] at hx
          exact nomatch hx
    · rw [cc_go hz c] at hx
      cases m with
      | zero => cases hx; simp only at hj; omega
      | succ m =>
        have hx : (cc (nb z b) (at_ + 1) s)[m]? = some x := hx
        match j, h0, h1, h2 with
        | 0, h0, h1, h2 =>
          have b0 : b = 0 := Option.some.inj h0
          have n1 : nb z b = 1 := by
            unfold nb at c ⊢
            rw [if_pos b0] at c ⊢
            omega
          rw [n1] at hx
          cases s with
          | nil => exact nomatch h1
          | cons d s =>
            have d0 : d = 0 := Option.some.inj h1
            subst d0
            rw [cc_wait (.inr rfl) (show nb 1 0 = 2 by decide)] at hx
            cases s with
            | nil => exact nomatch h2
            | cons f s =>
              have f1 : f = 1 := Option.some.inj h2
              subst f1
              rw [cc_two, if_neg (by decide)] at hx
              exact nomatch hx
        | j + 1, h0, h1, h2 => exact cc_no n s hn' _ (at_ + 1) m x (nb01 hz c) hx j (by omega) h0 h1 h2
theorem start_get {row : List Int} {i : Nat} (h : hasStart row i = true) : row[i]? = some 0 ∧ row[i + 1]? = some 0 ∧ row[i + 2]? = some 1 := by
  have := of_decide_eq_true h
  have g : ∀ j, j < 3 → row[i + j]? = ([0, 0, 1] : List Int)[j]? := fun j hj => by
    rw [← List.getElem?_drop, ← this, List.getElem?_take_of_lt hj]
  exact ⟨g 0 (by decide), g 1 (by decide), g 2 (by decide)⟩
theorem box_some {row : List Int} {i : Nat} {b : Tp3 Int (List Int) Int} (h : boxS row i = some b) : hasStart row i = true ∧ (∃ k, row[i + 3]? = some k ∧ 1 ≤ k) ∧ (∃ (m : Nat) (x : Int × Nat), (cc 0 (i + 4) (row.drop (i + 4)))[m]? = some x ∧ row[x.2]? = some 255 ∧ b.c = (x.2 : Int) + 1) ∧ b.b.length ≤ row.length := by
  unfold boxS at h
  by_cases c : hasStart row i = true
  · rw [if_pos c] at h
    refine ⟨c, ?_⟩
    cases e : row[i + 3]? with
    | none => rw [e] at h; exact nomatch h
    | some k =>
      rw [e] at h
      have h : (if 1 ≤ k ∧ k ≤ 9 then boxC row k (cc 0 (i + 4) (row.drop (i + 4))) else none) = some b := h
      by_cases hk : 1 ≤ k ∧ k ≤ 9
      · rw [if_pos hk] at h
        refine ⟨⟨k, rfl, hk.1⟩, ?_⟩
        have hL := fs_len (s := row.drop (i + 4)) (n := 0) (at_ := i + 4)
        rw [List.length_drop] at hL
        unfold boxC at h
        generalize cc 0 (i + 4) (row.drop (i + 4)) = C at h hL ⊢
        cases en : numb 0 (fsC C) with
        | none => rw [en] at h; exact nomatch h
        | some x =>
          rw [en] at h
          have h : (if 60000 < x.1 then none else if C.length < x.2 + x.1.toNat + 2 then none else
            match C[x.2 + x.1.toNat + 1]? with
            | none => none
            | some e => if ((fsC C).drop (x.2 + x.1.toNat)).take 2 = ckb k (((fsC C).drop x.2).take x.1.toNat) ∧ (row.drop e.2).take 1 = [255] then some ⟨k, ((fsC C).drop x.2).take x.1.toNat, (e.2 : Int) + 1⟩ else none : Option (Tp3 Int (List Int) Int)) = some b := h
          by_cases h1 : 60000 < x.1
          · rw [if_pos h1] at h; exact nomatch h
          rw [if_neg h1] at h
          by_cases h2 : C.length < x.2 + x.1.toNat + 2
          · rw [if_pos h2] at h; exact nomatch h
          rw [if_neg h2] at h
          cases ee : C[x.2 + x.1.toNat + 1]? with
          | none => rw [ee] at h; exact nomatch h
          | some e =>
            rw [ee] at h
            have h : (if ((fsC C).drop (x.2 + x.1.toNat)).take 2 = ckb k (((fsC C).drop x.2).take x.1.toNat) ∧ (row.drop e.2).take 1 = [255] then some (⟨k, ((fsC C).drop x.2).take x.1.toNat, (e.2 : Int) + 1⟩ : Tp3 Int (List Int) Int) else none) = some b := h
            by_cases h3 : ((fsC C).drop (x.2 + x.1.toNat)).take 2 = ckb k (((fsC C).drop x.2).take x.1.toNat) ∧ (row.drop e.2).take 1 = [255]
            · rw [if_pos h3] at h
              cases h
              refine ⟨⟨_, e, ee, ?_, rfl⟩, ?_⟩
              · have := congrArg (fun l : List Int => l[0]?) h3.2
                rw [List.getElem?_take_of_lt (by decide), List.getElem?_drop] at this
                exact this
              · show (((fsC C).drop x.2).take x.1.toNat).length ≤ _
                rw [List.length_take, List.length_drop, fsC_len]
                omega
            · rw [if_neg h3] at h
              exact nomatch h
      · rw [if_neg hk] at h
        exact nomatch h
  · rw [if_neg c] at h
    exact nomatch h
theorem inner {row : List Int} {i j : Nat} {b : Tp3 Int (List Int) Int} (h : boxS row i = some b) (hj : i < j) (he : (j : Int) < b.c) : hasStart row j = false := by
  cases c : hasStart row j with
  | false => rfl
  | true =>
    obtain ⟨s1, ⟨k, k1, k2⟩, ⟨m, x, x1, x2, x3⟩, _⟩ := box_some h
    obtain ⟨a0, a1, a2⟩ := start_get s1
    obtain ⟨g0, g1, g2⟩ := start_get c
    have no : ∀ {p : Nat} {u v : Int}, row[p]? = some u → row[p]? = some v → u ≠ v → False := fun hu hv n => n (Option.some.inj (hu.symm.trans hv))
    have : j = i + 1 ∨ j = i + 2 ∨ j = i + 3 ∨ i + 4 ≤ j := by omega
    rcases this with rfl | rfl | rfl | hj4
    · exact (no a2 g1 (by decide)).elim
    · exact (no a2 g0 (by decide)).elim
    · exact (no k1 g0 (by omega)).elim
    · have hx : j ≤ x.2 := by omega
      have : j = x.2 ∨ j + 1 = x.2 ∨ j + 2 = x.2 ∨ j + 2 < x.2 := by omega
      rcases this with e | e | e | e
      · rw [← e] at x2; exact (no x2 g0 (by decide)).elim
      · rw [← e] at x2; exact (no x2 g1 (by decide)).elim
      · rw [← e] at x2; exact (no x2 g2 (by decide)).elim
      · have d : ∀ p, row[j + p]? = (row.drop (i + 4))[j - (i + 4) + p]? := fun p => by
          rw [List.getElem?_drop]
          exact congrArg (fun n => row[n]?) (by omega)
        exact (cc_no _ _ (Nat.le_refl _) 0 (i + 4) m x (.inl rfl) x1 (j - (i + 4)) (by omega) ((d 0).symm.trans g0) ((d 1).symm.trans g1) ((d 2).symm.trans g2)).elim
theorem ix_in3 {α : Type} {l : List α} {i : Nat} {x : α} (h : l[i]? = some x) : ixR l (i : Int) = .ok x := by
  have hi : i < l.length := by
    rcases Nat.lt_or_ge i l.length with h' | h'
    · exact h'
    · rw [List.getElem?_eq_none h'] at h; exact nomatch h
  unfold ixR
  obtain ⟨y, e1, e2, _⟩ := atI_in (l := l) (i := (i : Int)) (by omega) (by omega)
  rw [e1]
  rw [show ((i : Int)).toNat = i by omega, h] at e2
  cases e2
  rfl
/-! # boxes one behind the other -/
def endB (row : List Int) (x : In3) : Int := match boxS row x.a.toNat with | some b => b.c | none => 0
theorem BL_mem {row : List Int} {x : In3} (h : x ∈ BL row) : ∃ b, boxS row x.a.toNat = some b ∧ 0 ≤ x.a ∧ x.a < (row.length : Int) ∧ x.c = b.b := by
  obtain ⟨y, my, e⟩ := List.mem_filterMap.mp h
  have hy := mem_rg my
  unfold hBox at e
  cases q : boxS row y.toNat with
  | none => rw [q] at e; exact nomatch e
  | some b =>
    rw [q] at e
    cases e
    exact ⟨b, q, hy.1, hy.2, rfl⟩
theorem rg_sorted (lo hi : Int) : (rngI lo hi).Pairwise (· < ·) := by
  unfold rngI
  refine List.pairwise_map.mpr (List.Pairwise.imp (fun h => ?_) List.pairwise_lt_range)
  omega
theorem BL_apart (row : List Int) : (BL row).Pairwise fun x y => endB row x ≤ y.a := by
  unfold BL
  refine List.Pairwise.filterMap _ (fun a b hab x hx y hy => ?_) (List.Pairwise.imp_of_mem (S := fun a b : Int => a < b ∧ 0 ≤ a) (fun {a b} ma mb h => ⟨h, (mem_rg ma).1⟩) (rg_sorted 0 (row.length : Int)))
  unfold hBox at hx hy
  cases q : boxS row a.toNat with
  | none => rw [q] at hx; exact nomatch hx
  | some bx =>
    rw [q] at hx
    cases hx
    cases q2 : boxS row b.toNat with
    | none => rw [q2] at hy; exact nomatch hy
    | some by_ =>
      rw [q2] at hy
      cases hy
      show endB row ⟨a, bx.a, bx.b⟩ ≤ b
      unfold endB
      show (match boxS row a.toNat with | some b => b.c | none => 0) ≤ b
      rw [q]
      show bx.c ≤ b
      rcases Int.lt_or_le b bx.c with h | h
      · have := inner q (j := b.toNat) (by omega) (by omega)
        rw [(box_some q2).1] at this
        exact nomatch this
      · exact h
theorem Ok.bindU {α β γ : Type} {m : Res (α × β)} {a : α} {b : β} {k : α → β → Res γ} {ψ : γ → Prop} (e : m = .ok (a, b)) (h : Ok (k a b) ψ) : Ok (m.bind (un2 k)) ψ := by rw [e]; exact h
theorem Ok.after {S β : Type} {k : S → Res β} {s : S} {ψ : β → Prop} (h : Ok (k s) ψ) : Ok (afterR k (.nx s)) ψ := h
theorem g62 (n : Nat) (h : n ≤ 900000) : (-(2 ^ 62) ≤ (1 : Int) ∧ (1 : Int) < 2 ^ 62) ∧ -(2 ^ 62) ≤ ((n : Int) : Int) ∧ ((n : Int) : Int) < 2 ^ 62 := by omega
theorem apart_l {row : List Int} (hl : row.length ≤ 900000) (hb : ∀ b ∈ row, Byt b) : l_apart (BL row) row = .ok true := by
  have ll : (BL row).length ≤ row.length := Nat.le_trans (List.length_filterMap_le _ _) (by rw [rg_len]; omega)
  refine ok_eq ?_
  unfold l_apart
  refine Ok.bindU (a := (BL row).map (endB row)) (b := ()) (compR_map (by omega) fun x mx => ?_) ?_
  · obtain ⟨b, q, h0, h1, _⟩ := BL_mem mx
    obtain ⟨i, hi⟩ : ∃ i : Nat, x.a = (i : Int) := ⟨x.a.toNat, by omega⟩
    rw [hi, box_l hl hb (by omega)]
    have q' : boxS row i = some b := by rw [hi, show ((i : Int)).toNat = i by omega] at q; exact q
    rw [q']
    show Res.ok (some b.c, ()) = Res.ok (some (endB row x), ())
    unfold endB
    rw [q]
  · refine Ok.guard (g62 _ (by omega)) (Ok.bindU (a := (rngI 1 ((BL row).length : Int)).map fun _ => true) (b := ()) (compR_map (by rw [rg_len]; omega) fun k mk => ?_) (Ok.pure ?_))
    · have hk := mem_rg mk
      obtain ⟨i, rfl⟩ : ∃ i : Nat, k = ((i + 1 : Nat) : Int) := ⟨(k - 1).toNat, by omega⟩
      have i1 : (BL row)[i + 1]? = some (BL row)[i + 1] := List.getElem?_eq_getElem (by omega)
      have i0 : ((BL row).map (endB row))[i]? = some (endB row (BL row)[i]) := by rw [List.getElem?_map, List.getElem?_eq_getElem (by omega)]; rfl
      have r0 : ixR ((BL row).map (endB row)) (((i + 1 : Nat) : Int) - 1) = .ok (endB row (BL row)[i]) := by
        rw [show ((i + 1 : Nat) : Int) - 1 = (i : Int) by omega]
        exact ix_in i0
      have r1 : ixR (BL row) ((i + 1 : Nat) : Int) = .ok (BL row)[i + 1] := ix_in3 i1
      rw [r0]
      show Res.bind (ixR (BL row) ((i + 1 : Nat) : Int)) _ = _
      rw [r1]
      have := List.pairwise_iff_getElem.mp (BL_apart row) i (i + 1) (by omega) (by omega) (by omega)
      show Res.ok (some (decide (endB row (BL row)[i] ≤ (BL row)[i + 1].a)), ()) = _
      rw [decide_eq_true this]
    · rw [List.all_map]
      exact List.all_eq_true.mpr fun _ _ => rfl
/-! # drawn -/
theorem thing_ok {st : List Int} (h : Gd st) : Ok (l_thing st) fun r => ((∀ b ∈ r.1, Byt b) ∧ r.1.length ≤ 100) ∧ r.2.length = 3 := by
  unfold l_thing
  refine dg h (by decide) (bg (by decide)) fun way s1 a1 b1 h1 => dg (gd3 h1) (by decide) (bg (by decide)) fun kind s2 a2 b2 h2 => Ok.lt (dg (gd3 h2) (by decide) (bg (by decide)) fun many s3 a3 b3 h3 => ?_)
  refine Ok.bind (bytes_l (gd3 h3) a3 (by omega)) ?_
  rintro ⟨body, s4⟩ ⟨q1, q2, q3⟩
  have q1 : ∀ b ∈ body, Byt b := q1
  have q2 : body.length ≤ 11 := by simp only at q2; omega
  refine Ok.bindE (boxed_l (k := 1 + kind) (b := body) (by omega)) ?_
  have bl := bxF_len (k := 1 + kind) (fg := [(body.length : Int)]) (b := body)
  have bb : ∀ x ∈ bx (1 + kind) body, Byt x := bxF_byt ⟨by omega, by omega⟩ (fun x m => by rw [List.mem_singleton.mp m]; exact ⟨by omega, by omega⟩) q1
  have bl' : (bx (1 + kind) body).length ≤ 33 ∧ 5 ≤ (bx (1 + kind) body).length := by
    have e : (bx (1 + kind) body).length = (bxF (1 + kind) [(body.length : Int)] body).length := rfl
    have e1 : ([(body.length : Int)] : List Int).length = 1 := rfl
    omega
  generalize bx (1 + kind) body = there at bb bl' ⊢
  have ct : ∀ lo hi, (cutL there lo hi).length ≤ 33 := fun lo hi => Nat.le_trans cutL_len bl'.1
  refine dg (gd3 q3) (by omega) (bg (by omega)) fun at_ s5 a5 b5 h5 => Ok.ite (fun _ => ?_) fun _ => Ok.ite (fun _ => ?_) fun _ => Ok.ite (fun _ => ?_) fun _ => Ok.ite (fun _ => ?_) fun _ => Ok.ite (fun _ => ?_) fun _ => ?_
  · refine Ok.ixm a5 b5 fun z _ => dg (gd3 h5) (by decide) (bg (by decide)) fun more s6 a6 b6 h6 => ?_
    have c1 := ct none (some at_)
    have c2 := ct (some (at_ + 1)) none
    refine Ok.guard (by show (cutL there none (some at_)).length + 1 ≤ _; omega) (Ok.guard (by rw [List.length_append]; show (cutL there none (some at_)).length + 1 + (cutL there (some (at_ + 1)) none).length ≤ _; omega) (Ok.pure ⟨⟨byt_app (byt_app (byt_cut bb) fun x m => ?_) (byt_cut bb), ?_⟩, h6⟩))
    · rw [List.mem_singleton.mp m]
      exact ⟨by omega, by omega⟩
    · simp only [List.length_append, List.length_singleton]
      omega
  · exact Ok.pure ⟨⟨byt_cut bb, by have := ct none (some at_); simp only; omega⟩, h5⟩
  · refine dg (gd3 h5) (by decide) (bg (by decide)) fun n1 s6 a6 b6 h6 => ?_
    refine Ok.guard ⟨by show 1 * n1.toNat ≤ _; omega, by omega, by omega⟩ ?_
    refine dg (gd3 h6) (by decide) (bg (by decide)) fun n2 s7 a7 b7 h7 => ?_
    have lt1 : (timesL ([0] : List Int) n1).length ≤ 2 := by
      unfold timesL
      rw [List.length_flatten, List.map_replicate, List.sum_replicate_nat]
      show n1.toNat * 1 ≤ 2
      omega
    have lt2 : (cutL ([0, 0, 1] : List Int) (some n2) none).length ≤ 3 := cutL_len
    have bt1 : ∀ b ∈ timesL ([0] : List Int) n1, Byt b := fun b m => by
      unfold timesL at m
      obtain ⟨l, ml, mb⟩ := List.mem_flatten.mp m
      rw [(List.mem_replicate.mp ml).2] at mb
      rw [List.mem_singleton.mp mb]
      exact ⟨by decide, by decide⟩
    have bt2 : ∀ b ∈ ([0, 0, 1] : List Int), Byt b := fun b m => by
      simp only [List.mem_cons, List.not_mem_nil, or_false] at m
      rcases m with rfl | rfl | rfl
      · exact ⟨by decide, by decide⟩
      · exact ⟨by decide, by decide⟩
      · exact ⟨by decide, by decide⟩
    refine Ok.guard (by show (timesL ([0] : List Int) n1).length + (cutL ([0, 0, 1] : List Int) (some n2) none).length ≤ _; omega) (dg (gd3 h7) (by decide) (bg (by decide)) fun k s8 a8 b8 h8 => Ok.guard (by rw [List.length_append]; show (timesL ([0] : List Int) n1).length + (cutL ([0, 0, 1] : List Int) (some n2) none).length + 1 ≤ _; omega) (Ok.pure ⟨⟨byt_app (byt_app bt1 (byt_cut bt2)) fun x m => ?_, ?_⟩, h8⟩))
    · rw [List.mem_singleton.mp m]
      exact ⟨by omega, by omega⟩
    · simp only [List.length_append, List.length_singleton]
      omega
  · refine dg (gd3 h5) (by decide) (bg (by decide)) fun n s6 a6 b6 h6 => Ok.bind (bytes_l (gd3 h6) a6 (by omega)) ?_
    rintro ⟨r, s⟩ ⟨w1, w2, w3⟩
    exact Ok.pure ⟨⟨w1, by simp only at w2 ⊢; omega⟩, w3⟩
  · refine dg (gd3 h5) (by decide) (bg (by decide)) fun n s6 a6 b6 h6 => Ok.bind (bytes_l (gd3 h6) a6 (by omega)) ?_
    rintro ⟨r, s⟩ ⟨w1, w2, w3⟩
    have w1 : ∀ b ∈ r, Byt b := w1
    have w2 : r.length ≤ 2 := by simp only at w2; omega
    have lr : (there ++ r).length ≤ 35 := by rw [List.length_append]; omega
    refine Ok.guard (by simp only; omega) (Ok.bindE (boxed_l (k := 1 + kind) (b := there ++ r) (by omega)) (Ok.pure ⟨⟨?_, ?_⟩, w3⟩))
    · exact bxF_byt ⟨by omega, by omega⟩ (fun x m => by rw [List.mem_singleton.mp m]; exact ⟨by omega, by omega⟩) (byt_app bb w1)
    · have := bxF_len (k := 1 + kind) (fg := [((there ++ r).length : Int)]) (b := there ++ r)
      have e1 : ([((there ++ r).length : Int)] : List Int).length = 1 := rfl
      show (bxF (1 + kind) [((there ++ r).length : Int)] (there ++ r)).length ≤ 100
      omega
  · exact Ok.pure ⟨⟨bb, by simp only; omega⟩, h5⟩
theorem refused_l {d : D} (hd : smallD d) (h : isBytes d = false) : l_refused d = .ok true := by
  unfold l_refused m_boxes_in__any
  rw [no_row hd h]
  rfl
theorem BL_small {row : List Int} (hl : row.length ≤ 400000) : ((BL row).all fun x => decide (x.c.length + (BL row).length < 999999)) = true := by
  have ll : (BL row).length ≤ row.length := Nat.le_trans (List.length_filterMap_le _ _) (by rw [rg_len]; omega)
  refine List.all_eq_true.mpr fun x mx => decide_eq_true ?_
  obtain ⟨b, q, _, _, e⟩ := BL_mem mx
  rw [e]
  have := (box_some q).2.2.2
  omega
theorem law_ok (ns : List Int) (h : ns.length ≤ 63) : m_law ns = .ok true := by
  have q : Ok (m_law ns) fun r => r = true := by
    unfold m_law
    have l1 : (cutL ns none (some 6)).length ≤ 63 := Nat.le_trans cutL_len h
    refine Ok.guard (by show _ + 2 ≤ _; omega) ?_
    refine Ok.bind (Ok.for (fun _ : Unit => True) (fun x _ _ _ => ?_) trivial) ?_
    · refine dg (.inl rfl) (by decide) (bg (by decide)) fun n s1 a1 b1 h1 => Ok.guard (by omega) ?_
      have ln := rg_len 0 n
      generalize rngI 0 n = rn at ln ⊢
      rw [← List.map_id rn]
      refine Ok.bind (Ok.forM' (g := id) (fun xs (s : List Int × List Int) => (∀ b ∈ s.1, Byt b) ∧ s.1.length + 100 * xs.length ≤ 1000 ∧ s.2.length = 3) ?_ ⟨fun _ m => (nomatch m), by show 0 + _ ≤ _; omega, h1⟩) ?_
      · rintro y ys ⟨row, s⟩ ⟨g1, g2, g3⟩
        have g2 : row.length + 100 * (ys.length + 1) ≤ 1000 := g2
        refine Ok.bind (thing_ok (gd3 g3)) ?_
        rintro ⟨r, s'⟩ ⟨⟨w1, w2⟩, w3⟩
        have w2 : r.length ≤ 100 := w2
        exact Ok.guard (by simp only; omega) (Ok.pure ⟨_, rfl, byt_app g1 w1, by simp only [List.length_append]; omega, w3⟩)
      · rintro _ ⟨⟨row, s⟩, rfl, g1, g2, g3⟩
        have g1 : ∀ b ∈ row, Byt b := g1
        have g2 : row.length ≤ 1000 := by simpa using g2
        have r9 : row.length ≤ 900000 := by omega
        have r4 : row.length ≤ 400000 := by omega
        have e1 := boxes_l r9 g1
        have e2 := apart_l r9 g1
        have e3 := boxes_m r9 g1
        have e4 := BL_small r4
        have e5 : okEq (enc (BL row)) (enc (BL row)) := okEq_of (eqOk_in3s _) (eqOk_in3s _)
        have e6 : eqD (enc (BL row)) (enc (BL row)) = true := eqD_refl (eqOk_flat _ 20 (eqOk_in3s _)).1
        have e7 : isA "list" (enc (BL row)) = true := (by decide +kernel : isS "list" "list" = true)
        generalize BL row = bl at e1 e2 e3 e4 e5 e6 e7
        refine Ok.after ?_
        refine Ok.bindE e1 ?_
        refine Ok.bindE e2 ?_
        refine Ok.iteT rfl ?_
        refine Ok.bind (Ok.for (fun _ : Unit => True) (fun _ _ _ _ => ?_) trivial) ?_
        · exact Ok.bindE e3 (Ok.iteT e7 (Ok.guard e5 (Ok.iteF (by rw [e6]; rfl) (Ok.guard (ok_rows _ _) (Ok.iteF (by rw [eq_row]; rfl) (Ok.guard e4 (Ok.pure ⟨_, rfl, trivial⟩)))))))
        · rintro _ ⟨_, rfl, _⟩
          refine Ok.bind (odd_ok (gd3 g3) (by simp only; omega) g1) ?_
          rintro ⟨d, s'⟩ ⟨⟨hd, hs⟩, _⟩
          exact Ok.bindE (refused_l hs hd) (Ok.iteT rfl (Ok.pure ⟨_, rfl, trivial⟩))
    · rintro _ ⟨_, rfl, _⟩
      exact Ok.pure rfl
  obtain ⟨a, e, rfl⟩ := q
  exact e
end A

set_option Elab.async false
set_option linter.all false
set_option maxRecDepth 100000
set_option maxHeartbeats 4000000
namespace A
open PySem PySem.Spec PyProof.Rows L2 Y
open Y.Enc (enc)
theorem all_mk {l : PySem.W.OpenLaw} {w : World} {K : PySem.W.Frag} {h : Heap} {mg : Str → Option Value} {fa : Addr} (X : K.In h) (G : h.Ns mainGlobals mg) (hfa : mg "law" = some (.ref fa))
    {f_is_whole : Addr} {od_is_whole an_is_whole : Option Addr} {sl_is_whole : Array (Option Value)} {oc_is_whole kV_is_whole dc_is_whole pm_is_whole cd_is_whole ct_is_whole : Value}
    (a_is_whole : PySem.W.nsIn K mainGlobals "is_whole" = some (some (.ref f_is_whole))) (l_is_whole : K.lookup f_is_whole = some ⟨oc_is_whole, od_is_whole, .func (PySem.W.fnOf "is_whole" "is_whole" (defArgs s_is_whole) (defBody s_is_whole) (defScope s_is_whole) .none kV_is_whole dc_is_whole pm_is_whole an_is_whole cd_is_whole ct_is_whole), sl_is_whole⟩) (c_is_whole : PySem.W.codeIn K cd_is_whole "is_whole" = true) (k_is_whole : PySem.W.keepIn K (.ref f_is_whole) = true)
    {f_is_bytes : Addr} {od_is_bytes an_is_bytes : Option Addr} {sl_is_bytes : Array (Option Value)} {oc_is_bytes kV_is_bytes dc_is_bytes pm_is_bytes cd_is_bytes ct_is_bytes : Value}
    (a_is_bytes : PySem.W.nsIn K mainGlobals "is_bytes" = some (some (.ref f_is_bytes))) (l_is_bytes : K.lookup f_is_bytes = some ⟨oc_is_bytes, od_is_bytes, .func (PySem.W.fnOf "is_bytes" "is_bytes" (defArgs s_is_bytes) (defBody s_is_bytes) (defScope s_is_bytes) .none kV_is_bytes dc_is_bytes pm_is_bytes an_is_bytes cd_is_bytes ct_is_bytes), sl_is_bytes⟩) (c_is_bytes : PySem.W.codeIn K cd_is_bytes "is_bytes" = true) (k_is_bytes : PySem.W.keepIn K (.ref f_is_bytes) = true)
    {f_sure_row : Addr} {od_sure_row an_sure_row : Option Addr} {sl_sure_row : Array (Option Value)} {oc_sure_row kV_sure_row dc_sure_row pm_sure_row cd_sure_row ct_sure_row : Value}
    (a_sure_row : PySem.W.nsIn K mainGlobals "sure_row" = some (some (.ref f_sure_row))) (l_sure_row : K.lookup f_sure_row = some ⟨oc_sure_row, od_sure_row, .func (PySem.W.fnOf "sure_row" "sure_row" (defArgs s_sure_row) (defBody s_sure_row) (defScope s_sure_row) .none kV_sure_row dc_sure_row pm_sure_row an_sure_row cd_sure_row ct_sure_row), sl_sure_row⟩) (c_sure_row : PySem.W.codeIn K cd_sure_row "sure_row" = true) (k_sure_row : PySem.W.keepIn K (.ref f_sure_row) = true)
    {f_number_at : Addr} {od_number_at an_number_at : Option Addr} {sl_number_at : Array (Option Value)} {oc_number_at kV_number_at dc_number_at pm_number_at cd_number_at ct_number_at : Value}
    (a_number_at : PySem.W.nsIn K mainGlobals "number_at" = some (some (.ref f_number_at))) (l_number_at : K.lookup f_number_at = some ⟨oc_number_at, od_number_at, .func (PySem.W.fnOf "number_at" "number_at" (defArgs s_number_at) (defBody s_number_at) (defScope s_number_at) .none kV_number_at dc_number_at pm_number_at an_number_at cd_number_at ct_number_at), sl_number_at⟩) (c_number_at : PySem.W.codeIn K cd_number_at "number_at" = true) (k_number_at : PySem.W.keepIn K (.ref f_number_at) = true)
    {f_check : Addr} {od_check an_check : Option Addr} {sl_check : Array (Option Value)} {oc_check kV_check dc_check pm_check cd_check ct_check : Value}
    (a_check : PySem.W.nsIn K mainGlobals "check" = some (some (.ref f_check))) (l_check : K.lookup f_check = some ⟨oc_check, od_check, .func (PySem.W.fnOf "check" "check" (defArgs s_check) (defBody s_check) (defScope s_check) .none kV_check dc_check pm_check an_check cd_check ct_check), sl_check⟩) (c_check : PySem.W.codeIn K cd_check "check" = true) (k_check : PySem.W.keepIn K (.ref f_check) = true)
    {f_noughts_behind : Addr} {od_noughts_behind an_noughts_behind : Option Addr} {sl_noughts_behind : Array (Option Value)} {oc_noughts_behind kV_noughts_behind dc_noughts_behind pm_noughts_behind cd_noughts_behind ct_noughts_behind : Value}
    (a_noughts_behind : PySem.W.nsIn K mainGlobals "noughts_behind" = some (some (.ref f_noughts_behind))) (l_noughts_behind : K.lookup f_noughts_behind = some ⟨oc_noughts_behind, od_noughts_behind, .func (PySem.W.fnOf "noughts_behind" "noughts_behind" (defArgs s_noughts_behind) (defBody s_noughts_behind) (defScope s_noughts_behind) .none kV_noughts_behind dc_noughts_behind pm_noughts_behind an_noughts_behind cd_noughts_behind ct_noughts_behind), sl_noughts_behind⟩) (c_noughts_behind : PySem.W.codeIn K cd_noughts_behind "noughts_behind" = true) (k_noughts_behind : PySem.W.keepIn K (.ref f_noughts_behind) = true)
    {f_unstuffed_from : Addr} {od_unstuffed_from an_unstuffed_from : Option Addr} {sl_unstuffed_from : Array (Option Value)} {oc_unstuffed_from kV_unstuffed_from dc_unstuffed_from pm_unstuffed_from cd_unstuffed_from ct_unstuffed_from : Value}
    (a_unstuffed_from : PySem.W.nsIn K mainGlobals "unstuffed_from" = some (some (.ref f_unstuffed_from))) (l_unstuffed_from : K.lookup f_unstuffed_from = some ⟨oc_unstuffed_from, od_unstuffed_from, .func (PySem.W.fnOf "unstuffed_from" "unstuffed_from" (defArgs s_unstuffed_from) (defBody s_unstuffed_from) (defScope s_unstuffed_from) .none kV_unstuffed_from dc_unstuffed_from pm_unstuffed_from an_unstuffed_from cd_unstuffed_from ct_unstuffed_from), sl_unstuffed_from⟩) (c_unstuffed_from : PySem.W.codeIn K cd_unstuffed_from "unstuffed_from" = true) (k_unstuffed_from : PySem.W.keepIn K (.ref f_unstuffed_from) = true)
    {f_check_bytes : Addr} {od_check_bytes an_check_bytes : Option Addr} {sl_check_bytes : Array (Option Value)} {oc_check_bytes kV_check_bytes dc_check_bytes pm_check_bytes cd_check_bytes ct_check_bytes : Value}
    (a_check_bytes : PySem.W.nsIn K mainGlobals "check_bytes" = some (some (.ref f_check_bytes))) (l_check_bytes : K.lookup f_check_bytes = some ⟨oc_check_bytes, od_check_bytes, .func (PySem.W.fnOf "check_bytes" "check_bytes" (defArgs s_check_bytes) (defBody s_check_bytes) (defScope s_check_bytes) .none kV_check_bytes dc_check_bytes pm_check_bytes an_check_bytes cd_check_bytes ct_check_bytes), sl_check_bytes⟩) (c_check_bytes : PySem.W.codeIn K cd_check_bytes "check_bytes" = true) (k_check_bytes : PySem.W.keepIn K (.ref f_check_bytes) = true)
    {f_stands_start : Addr} {od_stands_start an_stands_start : Option Addr} {sl_stands_start : Array (Option Value)} {oc_stands_start kV_stands_start dc_stands_start pm_stands_start cd_stands_start ct_stands_start : Value}
    (a_stands_start : PySem.W.nsIn K mainGlobals "stands_start" = some (some (.ref f_stands_start))) (l_stands_start : K.lookup f_stands_start = some ⟨oc_stands_start, od_stands_start, .func (PySem.W.fnOf "stands_start" "stands_start" (defArgs s_stands_start) (defBody s_stands_start) (defScope s_stands_start) .none kV_stands_start dc_stands_start pm_stands_start an_stands_start cd_stands_start ct_stands_start), sl_stands_start⟩) (c_stands_start : PySem.W.codeIn K cd_stands_start "stands_start" = true) (k_stands_start : PySem.W.keepIn K (.ref f_stands_start) = true)
    {f_starts_in : Addr} {od_starts_in an_starts_in : Option Addr} {sl_starts_in : Array (Option Value)} {oc_starts_in kV_starts_in dc_starts_in pm_starts_in cd_starts_in ct_starts_in : Value}
    (a_starts_in : PySem.W.nsIn K mainGlobals "starts_in" = some (some (.ref f_starts_in))) (l_starts_in : K.lookup f_starts_in = some ⟨oc_starts_in, od_starts_in, .func (PySem.W.fnOf "starts_in" "starts_in" (defArgs s_starts_in) (defBody s_starts_in) (defScope s_starts_in) .none kV_starts_in dc_starts_in pm_starts_in an_starts_in cd_starts_in ct_starts_in), sl_starts_in⟩) (c_starts_in : PySem.W.codeIn K cd_starts_in "starts_in" = true) (k_starts_in : PySem.W.keepIn K (.ref f_starts_in) = true)
    {f_size_at : Addr} {od_size_at an_size_at : Option Addr} {sl_size_at : Array (Option Value)} {oc_size_at kV_size_at dc_size_at pm_size_at cd_size_at ct_size_at : Value}
    (a_size_at : PySem.W.nsIn K mainGlobals "size_at" = some (some (.ref f_size_at))) (l_size_at : K.lookup f_size_at = some ⟨oc_size_at, od_size_at, .func (PySem.W.fnOf "size_at" "size_at" (defArgs s_size_at) (defBody s_size_at) (defScope s_size_at) .none kV_size_at dc_size_at pm_size_at an_size_at cd_size_at ct_size_at), sl_size_at⟩) (c_size_at : PySem.W.codeIn K cd_size_at "size_at" = true) (k_size_at : PySem.W.keepIn K (.ref f_size_at) = true)
    {f_box_there : Addr} {od_box_there an_box_there : Option Addr} {sl_box_there : Array (Option Value)} {oc_box_there kV_box_there dc_box_there pm_box_there cd_box_there ct_box_there : Value}
    (a_box_there : PySem.W.nsIn K mainGlobals "box_there" = some (some (.ref f_box_there))) (l_box_there : K.lookup f_box_there = some ⟨oc_box_there, od_box_there, .func (PySem.W.fnOf "box_there" "box_there" (defArgs s_box_there) (defBody s_box_there) (defScope s_box_there) .none kV_box_there dc_box_there pm_box_there an_box_there cd_box_there ct_box_there), sl_box_there⟩) (c_box_there : PySem.W.codeIn K cd_box_there "box_there" = true) (k_box_there : PySem.W.keepIn K (.ref f_box_there) = true)
    {f_boxes_in : Addr} {od_boxes_in an_boxes_in : Option Addr} {sl_boxes_in : Array (Option Value)} {oc_boxes_in kV_boxes_in dc_boxes_in pm_boxes_in cd_boxes_in ct_boxes_in : Value}
    (a_boxes_in : PySem.W.nsIn K mainGlobals "boxes_in" = some (some (.ref f_boxes_in))) (l_boxes_in : K.lookup f_boxes_in = some ⟨oc_boxes_in, od_boxes_in, .func (PySem.W.fnOf "boxes_in" "boxes_in" (defArgs s_boxes_in__any) (defBody s_boxes_in__any) (defScope s_boxes_in__any) .none kV_boxes_in dc_boxes_in pm_boxes_in an_boxes_in cd_boxes_in ct_boxes_in), sl_boxes_in⟩) (c_boxes_in : PySem.W.codeIn K cd_boxes_in "boxes_in" = true) (k_boxes_in : PySem.W.keepIn K (.ref f_boxes_in) = true)
    {f__law_digit : Addr} {od__law_digit an__law_digit : Option Addr} {sl__law_digit : Array (Option Value)} {oc__law_digit kV__law_digit dc__law_digit pm__law_digit cd__law_digit ct__law_digit : Value}
    (a__law_digit : PySem.W.nsIn K mainGlobals "_law_digit" = some (some (.ref f__law_digit))) (l__law_digit : K.lookup f__law_digit = some ⟨oc__law_digit, od__law_digit, .func (PySem.W.fnOf "_law_digit" "_law_digit" (defArgs s__law_digit) (defBody s__law_digit) (defScope s__law_digit) .none kV__law_digit dc__law_digit pm__law_digit an__law_digit cd__law_digit ct__law_digit), sl__law_digit⟩) (c__law_digit : PySem.W.codeIn K cd__law_digit "_law_digit" = true) (k__law_digit : PySem.W.keepIn K (.ref f__law_digit) = true)
    {f__law_figures : Addr} {od__law_figures an__law_figures : Option Addr} {sl__law_figures : Array (Option Value)} {oc__law_figures kV__law_figures dc__law_figures pm__law_figures cd__law_figures ct__law_figures : Value}
    (a__law_figures : PySem.W.nsIn K mainGlobals "_law_figures" = some (some (.ref f__law_figures))) (l__law_figures : K.lookup f__law_figures = some ⟨oc__law_figures, od__law_figures, .func (PySem.W.fnOf "_law_figures" "_law_figures" (defArgs s__law_figures) (defBody s__law_figures) (defScope s__law_figures) .none kV__law_figures dc__law_figures pm__law_figures an__law_figures cd__law_figures ct__law_figures), sl__law_figures⟩) (c__law_figures : PySem.W.codeIn K cd__law_figures "_law_figures" = true) (k__law_figures : PySem.W.keepIn K (.ref f__law_figures) = true)
    {f__law_number_at : Addr} {od__law_number_at an__law_number_at : Option Addr} {sl__law_number_at : Array (Option Value)} {oc__law_number_at kV__law_number_at dc__law_number_at pm__law_number_at cd__law_number_at ct__law_number_at : Value}
    (a__law_number_at : PySem.W.nsIn K mainGlobals "_law_number_at" = some (some (.ref f__law_number_at))) (l__law_number_at : K.lookup f__law_number_at = some ⟨oc__law_number_at, od__law_number_at, .func (PySem.W.fnOf "_law_number_at" "_law_number_at" (defArgs s__law_number_at) (defBody s__law_number_at) (defScope s__law_number_at) .none kV__law_number_at dc__law_number_at pm__law_number_at an__law_number_at cd__law_number_at ct__law_number_at), sl__law_number_at⟩) (c__law_number_at : PySem.W.codeIn K cd__law_number_at "_law_number_at" = true) (k__law_number_at : PySem.W.keepIn K (.ref f__law_number_at) = true)
    {f__law_odd_row : Addr} {od__law_odd_row an__law_odd_row : Option Addr} {sl__law_odd_row : Array (Option Value)} {oc__law_odd_row kV__law_odd_row dc__law_odd_row pm__law_odd_row cd__law_odd_row ct__law_odd_row : Value}
    (a__law_odd_row : PySem.W.nsIn K mainGlobals "_law_odd_row" = some (some (.ref f__law_odd_row))) (l__law_odd_row : K.lookup f__law_odd_row = some ⟨oc__law_odd_row, od__law_odd_row, .func (PySem.W.fnOf "_law_odd_row" "_law_odd_row" (defArgs s__law_odd_row) (defBody s__law_odd_row) (defScope s__law_odd_row) .none kV__law_odd_row dc__law_odd_row pm__law_odd_row an__law_odd_row cd__law_odd_row ct__law_odd_row), sl__law_odd_row⟩) (c__law_odd_row : PySem.W.codeIn K cd__law_odd_row "_law_odd_row" = true) (k__law_odd_row : PySem.W.keepIn K (.ref f__law_odd_row) = true)
    {f__law_bytes : Addr} {od__law_bytes an__law_bytes : Option Addr} {sl__law_bytes : Array (Option Value)} {oc__law_bytes kV__law_bytes dc__law_bytes pm__law_bytes cd__law_bytes ct__law_bytes : Value}
    (a__law_bytes : PySem.W.nsIn K mainGlobals "_law_bytes" = some (some (.ref f__law_bytes))) (l__law_bytes : K.lookup f__law_bytes = some ⟨oc__law_bytes, od__law_bytes, .func (PySem.W.fnOf "_law_bytes" "_law_bytes" (defArgs s__law_bytes) (defBody s__law_bytes) (defScope s__law_bytes) .none kV__law_bytes dc__law_bytes pm__law_bytes an__law_bytes cd__law_bytes ct__law_bytes), sl__law_bytes⟩) (c__law_bytes : PySem.W.codeIn K cd__law_bytes "_law_bytes" = true) (k__law_bytes : PySem.W.keepIn K (.ref f__law_bytes) = true)
    {f__law_sum : Addr} {od__law_sum an__law_sum : Option Addr} {sl__law_sum : Array (Option Value)} {oc__law_sum kV__law_sum dc__law_sum pm__law_sum cd__law_sum ct__law_sum : Value}
    (a__law_sum : PySem.W.nsIn K mainGlobals "_law_sum" = some (some (.ref f__law_sum))) (l__law_sum : K.lookup f__law_sum = some ⟨oc__law_sum, od__law_sum, .func (PySem.W.fnOf "_law_sum" "_law_sum" (defArgs s__law_sum) (defBody s__law_sum) (defScope s__law_sum) .none kV__law_sum dc__law_sum pm__law_sum an__law_sum cd__law_sum ct__law_sum), sl__law_sum⟩) (c__law_sum : PySem.W.codeIn K cd__law_sum "_law_sum" = true) (k__law_sum : PySem.W.keepIn K (.ref f__law_sum) = true)
    {f__law_stuffed : Addr} {od__law_stuffed an__law_stuffed : Option Addr} {sl__law_stuffed : Array (Option Value)} {oc__law_stuffed kV__law_stuffed dc__law_stuffed pm__law_stuffed cd__law_stuffed ct__law_stuffed : Value}
    (a__law_stuffed : PySem.W.nsIn K mainGlobals "_law_stuffed" = some (some (.ref f__law_stuffed))) (l__law_stuffed : K.lookup f__law_stuffed = some ⟨oc__law_stuffed, od__law_stuffed, .func (PySem.W.fnOf "_law_stuffed" "_law_stuffed" (defArgs s__law_stuffed) (defBody s__law_stuffed) (defScope s__law_stuffed) .none kV__law_stuffed dc__law_stuffed pm__law_stuffed an__law_stuffed cd__law_stuffed ct__law_stuffed), sl__law_stuffed⟩) (c__law_stuffed : PySem.W.codeIn K cd__law_stuffed "_law_stuffed" = true) (k__law_stuffed : PySem.W.keepIn K (.ref f__law_stuffed) = true)
    {f__law_boxed : Addr} {od__law_boxed an__law_boxed : Option Addr} {sl__law_boxed : Array (Option Value)} {oc__law_boxed kV__law_boxed dc__law_boxed pm__law_boxed cd__law_boxed ct__law_boxed : Value}
    (a__law_boxed : PySem.W.nsIn K mainGlobals "_law_boxed" = some (some (.ref f__law_boxed))) (l__law_boxed : K.lookup f__law_boxed = some ⟨oc__law_boxed, od__law_boxed, .func (PySem.W.fnOf "_law_boxed" "_law_boxed" (defArgs s__law_boxed) (defBody s__law_boxed) (defScope s__law_boxed) .none kV__law_boxed dc__law_boxed pm__law_boxed an__law_boxed cd__law_boxed ct__law_boxed), sl__law_boxed⟩) (c__law_boxed : PySem.W.codeIn K cd__law_boxed "_law_boxed" = true) (k__law_boxed : PySem.W.keepIn K (.ref f__law_boxed) = true)
    {f__law_contents : Addr} {od__law_contents an__law_contents : Option Addr} {sl__law_contents : Array (Option Value)} {oc__law_contents kV__law_contents dc__law_contents pm__law_contents cd__law_contents ct__law_contents : Value}
    (a__law_contents : PySem.W.nsIn K mainGlobals "_law_contents" = some (some (.ref f__law_contents))) (l__law_contents : K.lookup f__law_contents = some ⟨oc__law_contents, od__law_contents, .func (PySem.W.fnOf "_law_contents" "_law_contents" (defArgs s__law_contents) (defBody s__law_contents) (defScope s__law_contents) .none kV__law_contents dc__law_contents pm__law_contents an__law_contents cd__law_contents ct__law_contents), sl__law_contents⟩) (c__law_contents : PySem.W.codeIn K cd__law_contents "_law_contents" = true) (k__law_contents : PySem.W.keepIn K (.ref f__law_contents) = true)
    {f__law_box_at : Addr} {od__law_box_at an__law_box_at : Option Addr} {sl__law_box_at : Array (Option Value)} {oc__law_box_at kV__law_box_at dc__law_box_at pm__law_box_at cd__law_box_at ct__law_box_at : Value}
    (a__law_box_at : PySem.W.nsIn K mainGlobals "_law_box_at" = some (some (.ref f__law_box_at))) (l__law_box_at : K.lookup f__law_box_at = some ⟨oc__law_box_at, od__law_box_at, .func (PySem.W.fnOf "_law_box_at" "_law_box_at" (defArgs s__law_box_at) (defBody s__law_box_at) (defScope s__law_box_at) .none kV__law_box_at dc__law_box_at pm__law_box_at an__law_box_at cd__law_box_at ct__law_box_at), sl__law_box_at⟩) (c__law_box_at : PySem.W.codeIn K cd__law_box_at "_law_box_at" = true) (k__law_box_at : PySem.W.keepIn K (.ref f__law_box_at) = true)
    {f__law_boxes_in : Addr} {od__law_boxes_in an__law_boxes_in : Option Addr} {sl__law_boxes_in : Array (Option Value)} {oc__law_boxes_in kV__law_boxes_in dc__law_boxes_in pm__law_boxes_in cd__law_boxes_in ct__law_boxes_in : Value}
    (a__law_boxes_in : PySem.W.nsIn K mainGlobals "_law_boxes_in" = some (some (.ref f__law_boxes_in))) (l__law_boxes_in : K.lookup f__law_boxes_in = some ⟨oc__law_boxes_in, od__law_boxes_in, .func (PySem.W.fnOf "_law_boxes_in" "_law_boxes_in" (defArgs s__law_boxes_in) (defBody s__law_boxes_in) (defScope s__law_boxes_in) .none kV__law_boxes_in dc__law_boxes_in pm__law_boxes_in an__law_boxes_in cd__law_boxes_in ct__law_boxes_in), sl__law_boxes_in⟩) (c__law_boxes_in : PySem.W.codeIn K cd__law_boxes_in "_law_boxes_in" = true) (k__law_boxes_in : PySem.W.keepIn K (.ref f__law_boxes_in) = true)
    {f__law_thing : Addr} {od__law_thing an__law_thing : Option Addr} {sl__law_thing : Array (Option Value)} {oc__law_thing kV__law_thing dc__law_thing pm__law_thing cd__law_thing ct__law_thing : Value}
    (a__law_thing : PySem.W.nsIn K mainGlobals "_law_thing" = some (some (.ref f__law_thing))) (l__law_thing : K.lookup f__law_thing = some ⟨oc__law_thing, od__law_thing, .func (PySem.W.fnOf "_law_thing" "_law_thing" (defArgs s__law_thing) (defBody s__law_thing) (defScope s__law_thing) .none kV__law_thing dc__law_thing pm__law_thing an__law_thing cd__law_thing ct__law_thing), sl__law_thing⟩) (c__law_thing : PySem.W.codeIn K cd__law_thing "_law_thing" = true) (k__law_thing : PySem.W.keepIn K (.ref f__law_thing) = true)
    {f__law_refused : Addr} {od__law_refused an__law_refused : Option Addr} {sl__law_refused : Array (Option Value)} {oc__law_refused kV__law_refused dc__law_refused pm__law_refused cd__law_refused ct__law_refused : Value}
    (a__law_refused : PySem.W.nsIn K mainGlobals "_law_refused" = some (some (.ref f__law_refused))) (l__law_refused : K.lookup f__law_refused = some ⟨oc__law_refused, od__law_refused, .func (PySem.W.fnOf "_law_refused" "_law_refused" (defArgs s__law_refused) (defBody s__law_refused) (defScope s__law_refused) .none kV__law_refused dc__law_refused pm__law_refused an__law_refused cd__law_refused ct__law_refused), sl__law_refused⟩) (c__law_refused : PySem.W.codeIn K cd__law_refused "_law_refused" = true) (k__law_refused : PySem.W.keepIn K (.ref f__law_refused) = true)
    {f__law_apart : Addr} {od__law_apart an__law_apart : Option Addr} {sl__law_apart : Array (Option Value)} {oc__law_apart kV__law_apart dc__law_apart pm__law_apart cd__law_apart ct__law_apart : Value}
    (a__law_apart : PySem.W.nsIn K mainGlobals "_law_apart" = some (some (.ref f__law_apart))) (l__law_apart : K.lookup f__law_apart = some ⟨oc__law_apart, od__law_apart, .func (PySem.W.fnOf "_law_apart" "_law_apart" (defArgs s__law_apart) (defBody s__law_apart) (defScope s__law_apart) .none kV__law_apart dc__law_apart pm__law_apart an__law_apart cd__law_apart ct__law_apart), sl__law_apart⟩) (c__law_apart : PySem.W.codeIn K cd__law_apart "_law_apart" = true) (k__law_apart : PySem.W.keepIn K (.ref f__law_apart) = true)
    {f_law : Addr} {od_law an_law : Option Addr} {sl_law : Array (Option Value)} {oc_law kV_law dc_law pm_law cd_law ct_law : Value}
    (a_law : PySem.W.nsIn K mainGlobals "law" = some (some (.ref f_law))) (l_law : K.lookup f_law = some ⟨oc_law, od_law, .func (PySem.W.fnOf "law" "law" (defArgs s_law) (defBody s_law) (defScope s_law) .none kV_law dc_law pm_law an_law cd_law ct_law), sl_law⟩) (c_law : PySem.W.codeIn K cd_law "law" = true) (k_law : PySem.W.keepIn K (.ref f_law) = true)
    {C_NoBytes : Addr}
    (xca_NoBytes : PySem.W.nsIn K mainGlobals "NoBytes" = some (some (.ref C_NoBytes)))
    (xchg_NoBytes : PySem.W.findIn K (.ref C_NoBytes) "__getattribute__" = some (some (.builtin "BaseException.__getattribute__")))
    (xchk_NoBytes : PySem.W.findIn K (.ref C_NoBytes) "__getattr__" = some none)
    (xchs_NoBytes : PySem.W.subIn K (.ref C_NoBytes) (.type "BaseException") = some true)
    (xchd_NoBytes : PySem.W.hasDictIn K C_NoBytes = true)
    (xcha_NoBytes : PySem.W.findIn K (.ref C_NoBytes) "__class__" = some (some (.builtin "object.__class__")))
    (xchm_NoBytes : PySem.W.mroIn K C_NoBytes (.type "object") = some true)
    (xcty_NoBytes : PySem.W.typeIn K (.ref C_NoBytes) = some (.type "type"))
    (xckp_NoBytes : PySem.W.keepIn K (.ref C_NoBytes) = true)
    (xcve_NoBytes : PySem.W.subIn K (.ref C_NoBytes) (.type "ValueError") = some true)
    (xcis_NoBytes : PySem.W.isClsIn K C_NoBytes = true)
    (xcself_NoBytes : PySem.W.subIn K (.ref C_NoBytes) (.ref C_NoBytes) = some true)
    (xcex_NoBytes : PySem.W.excIn K C_NoBytes [.type "ValueError", .type "Exception", .type "BaseException", .type "object"] "ValueError.__new__" = true)
    {C_ScrollError : Addr}
    (xca_ScrollError : PySem.W.nsIn K mainGlobals "ScrollError" = some (some (.ref C_ScrollError)))
    (xchg_ScrollError : PySem.W.findIn K (.ref C_ScrollError) "__getattribute__" = some (some (.builtin "BaseException.__getattribute__")))
    (xchk_ScrollError : PySem.W.findIn K (.ref C_ScrollError) "__getattr__" = some none)
    (xchs_ScrollError : PySem.W.subIn K (.ref C_ScrollError) (.type "BaseException") = some true)
    (xchd_ScrollError : PySem.W.hasDictIn K C_ScrollError = true)
    (xcha_ScrollError : PySem.W.findIn K (.ref C_ScrollError) "__class__" = some (some (.builtin "object.__class__")))
    (xchm_ScrollError : PySem.W.mroIn K C_ScrollError (.type "object") = some true)
    (xcty_ScrollError : PySem.W.typeIn K (.ref C_ScrollError) = some (.type "type"))
    (xckp_ScrollError : PySem.W.keepIn K (.ref C_ScrollError) = true)
    (xcve_ScrollError : PySem.W.subIn K (.ref C_ScrollError) (.type "ValueError") = some true)
    (xcis_ScrollError : PySem.W.isClsIn K C_ScrollError = true)
    (xcself_ScrollError : PySem.W.subIn K (.ref C_ScrollError) (.ref C_ScrollError) = some true)
    (xcex_ScrollError : PySem.W.excIn K C_ScrollError [.type "ValueError", .type "Exception", .type "BaseException", .type "object"] "ValueError.__new__" = true)
    {C_NoKind : Addr}
    (xca_NoKind : PySem.W.nsIn K mainGlobals "NoKind" = some (some (.ref C_NoKind)))
    (xchg_NoKind : PySem.W.findIn K (.ref C_NoKind) "__getattribute__" = some (some (.builtin "BaseException.__getattribute__")))
    (xchk_NoKind : PySem.W.findIn K (.ref C_NoKind) "__getattr__" = some none)
    (xchs_NoKind : PySem.W.subIn K (.ref C_NoKind) (.type "BaseException") = some true)
    (xchd_NoKind : PySem.W.hasDictIn K C_NoKind = true)
    (xcha_NoKind : PySem.W.findIn K (.ref C_NoKind) "__class__" = some (some (.builtin "object.__class__")))
    (xchm_NoKind : PySem.W.mroIn K C_NoKind (.type "object") = some true)
    (xcty_NoKind : PySem.W.typeIn K (.ref C_NoKind) = some (.type "type"))
    (xckp_NoKind : PySem.W.keepIn K (.ref C_NoKind) = true)
    (xcve_NoKind : PySem.W.subIn K (.ref C_NoKind) (.type "ValueError") = some true)
    (xcis_NoKind : PySem.W.isClsIn K C_NoKind = true)
    (xcself_NoKind : PySem.W.subIn K (.ref C_NoKind) (.ref C_NoKind) = some true)
    (xcex_NoKind : PySem.W.excIn K C_NoKind [.type "ValueError", .type "Exception", .type "BaseException", .type "object"] "ValueError.__new__" = true)
    {C_NoPlace : Addr}
    (xca_NoPlace : PySem.W.nsIn K mainGlobals "NoPlace" = some (some (.ref C_NoPlace)))
    (xchg_NoPlace : PySem.W.findIn K (.ref C_NoPlace) "__getattribute__" = some (some (.builtin "BaseException.__getattribute__")))
    (xchk_NoPlace : PySem.W.findIn K (.ref C_NoPlace) "__getattr__" = some none)
    (xchs_NoPlace : PySem.W.subIn K (.ref C_NoPlace) (.type "BaseException") = some true)
    (xchd_NoPlace : PySem.W.hasDictIn K C_NoPlace = true)
    (xcha_NoPlace : PySem.W.findIn K (.ref C_NoPlace) "__class__" = some (some (.builtin "object.__class__")))
    (xchm_NoPlace : PySem.W.mroIn K C_NoPlace (.type "object") = some true)
    (xcty_NoPlace : PySem.W.typeIn K (.ref C_NoPlace) = some (.type "type"))
    (xckp_NoPlace : PySem.W.keepIn K (.ref C_NoPlace) = true)
    (xcve_NoPlace : PySem.W.subIn K (.ref C_NoPlace) (.type "ValueError") = some true)
    (xcis_NoPlace : PySem.W.isClsIn K C_NoPlace = true)
    (xcself_NoPlace : PySem.W.subIn K (.ref C_NoPlace) (.ref C_NoPlace) = some true)
    (xcex_NoPlace : PySem.W.excIn K C_NoPlace [.type "ValueError", .type "Exception", .type "BaseException", .type "object"] "ValueError.__new__" = true)
    {tkC_GREATEST : Tok} (cg_GREATEST : PySem.W.nsIn K mainGlobals "GREATEST" = some (some (.int 1000000000000000000000000000000000000000000000000000000000000 tkC_GREATEST)))
    {C_START : Addr} {dC_START : Option Addr} {nC_START : Nat} {sC_START : Array (Option Value)} {tk_START_0 tk_START_1 tk_START_2 : Tok}
    (cg_START : PySem.W.nsIn K mainGlobals "START" = some (some (.ref C_START))) (cl_START : K.lookup C_START = some ⟨.type "tuple", dC_START, .seq #[.int 0 tk_START_0, .int 0 tk_START_1, .int 1 tk_START_2] nC_START, sC_START⟩)
    {tkC_MOST_BODY : Tok} (cg_MOST_BODY : PySem.W.nsIn K mainGlobals "MOST_BODY" = some (some (.int 60000 tkC_MOST_BODY)))
    {tkC_END : Tok} (cg_END : PySem.W.nsIn K mainGlobals "END" = some (some (.int 255 tkC_END)))
    (p_NoBytes_NoBytes : PySem.W.subIn K (.ref C_NoBytes) (.ref C_NoBytes) = some true)
    (p_NoBytes_NoKind : PySem.W.subIn K (.ref C_NoBytes) (.ref C_NoKind) = some false)
    (p_NoBytes_NoPlace : PySem.W.subIn K (.ref C_NoBytes) (.ref C_NoPlace) = some false)
    (xhn : PySem.W.specialIn K (.builtin "object.__class__") "__get__" = some (some (.builtin "getset_descriptor.__get__"))) (xht : PySem.W.takesIn K (.builtin "object.__class__") = some true)
    (z_isinstance : PySem.W.nsIn K mainGlobals "isinstance" = some none)
    (z_int : PySem.W.nsIn K mainGlobals "int" = some none)
    (z_bool : PySem.W.nsIn K mainGlobals "bool" = some none)
    (z_list : PySem.W.nsIn K mainGlobals "list" = some none)
    (z_all : PySem.W.nsIn K mainGlobals "all" = some none)
    (z_len : PySem.W.nsIn K mainGlobals "len" = some none)
    (z_divmod : PySem.W.nsIn K mainGlobals "divmod" = some none)
    (z_range : PySem.W.nsIn K mainGlobals "range" = some none)
    (z_tuple : PySem.W.nsIn K mainGlobals "tuple" = some none)
    : ∃ fd : FuncData, (∀ (s : Shared) (v : Value), BindsTo s fd ⟨[v], []⟩ [("_law_script", v)]) ∧ ∀ base : Heap, K.In base → base.Ns mainGlobals mg → FnOk l.prog w K mg base CX0 8 fa fd ["_law_script"] (spTop K) := by
  have e := hfa.symm.trans (PySem.W.mg_of X G a_law)
  cases e
  have F_is_whole := fun_mk (st := s_is_whole) l_is_whole c_is_whole k_is_whole
  have b_is_whole := F_is_whole.binds (ps := ["thing", "low", "high"]) fun _ _ _ _ _ _ us hl => match us, hl with | [_, _, _], _ => rfl
  have g_is_whole := PySem.W.mg_of X G a_is_whole
  have F_is_bytes := fun_mk (st := s_is_bytes) l_is_bytes c_is_bytes k_is_bytes
  have b_is_bytes := F_is_bytes.binds (ps := ["thing"]) fun _ _ _ _ _ _ us hl => match us, hl with | [_], _ => rfl
  have g_is_bytes := PySem.W.mg_of X G a_is_bytes
  have F_sure_row := fun_mk (st := s_sure_row) l_sure_row c_sure_row k_sure_row
  have b_sure_row := F_sure_row.binds (ps := ["row"]) fun _ _ _ _ _ _ us hl => match us, hl with | [_], _ => rfl
  have g_sure_row := PySem.W.mg_of X G a_sure_row
  have F_number_at := fun_mk (st := s_number_at) l_number_at c_number_at k_number_at
  have b_number_at := F_number_at.binds (ps := ["row", "at"]) fun _ _ _ _ _ _ us hl => match us, hl with | [_, _], _ => rfl
  have g_number_at := PySem.W.mg_of X G a_number_at
  have F_check := fun_mk (st := s_check) l_check c_check k_check
  have b_check := F_check.binds (ps := ["row"]) fun _ _ _ _ _ _ us hl => match us, hl with | [_], _ => rfl
  have g_check := PySem.W.mg_of X G a_check
  have F_noughts_behind := fun_mk (st := s_noughts_behind) l_noughts_behind c_noughts_behind k_noughts_behind
  have b_noughts_behind := F_noughts_behind.binds (ps := ["noughts", "byte"]) fun _ _ _ _ _ _ us hl => match us, hl with | [_, _], _ => rfl
  have g_noughts_behind := PySem.W.mg_of X G a_noughts_behind
  have F_unstuffed_from := fun_mk (st := s_unstuffed_from) l_unstuffed_from c_unstuffed_from k_unstuffed_from
  have b_unstuffed_from := F_unstuffed_from.binds (ps := ["row", "at", "many"]) fun _ _ _ _ _ _ us hl => match us, hl with | [_, _, _], _ => rfl
  have g_unstuffed_from := PySem.W.mg_of X G a_unstuffed_from
  have F_check_bytes := fun_mk (st := s_check_bytes) l_check_bytes c_check_bytes k_check_bytes
  have b_check_bytes := F_check_bytes.binds (ps := ["kind", "body"]) fun _ _ _ _ _ _ us hl => match us, hl with | [_, _], _ => rfl
  have g_check_bytes := PySem.W.mg_of X G a_check_bytes
  have F_stands_start := fun_mk (st := s_stands_start) l_stands_start c_stands_start k_stands_start
  have b_stands_start := F_stands_start.binds (ps := ["row", "at"]) fun _ _ _ _ _ _ us hl => match us, hl with | [_, _], _ => rfl
  have g_stands_start := PySem.W.mg_of X G a_stands_start
  have F_starts_in := fun_mk (st := s_starts_in) l_starts_in c_starts_in k_starts_in
  have b_starts_in := F_starts_in.binds (ps := ["row"]) fun _ _ _ _ _ _ us hl => match us, hl with | [_], _ => rfl
  have g_starts_in := PySem.W.mg_of X G a_starts_in
  have F_size_at := fun_mk (st := s_size_at) l_size_at c_size_at k_size_at
  have b_size_at := F_size_at.binds (ps := ["row", "at"]) fun _ _ _ _ _ _ us hl => match us, hl with | [_, _], _ => rfl
  have g_size_at := PySem.W.mg_of X G a_size_at
  have F_box_there := fun_mk (st := s_box_there) l_box_there c_box_there k_box_there
  have b_box_there := F_box_there.binds (ps := ["row", "at"]) fun _ _ _ _ _ _ us hl => match us, hl with | [_, _], _ => rfl
  have g_box_there := PySem.W.mg_of X G a_box_there
  have F_boxes_in := fun_mk (st := s_boxes_in__any) l_boxes_in c_boxes_in k_boxes_in
  have b_boxes_in := F_boxes_in.binds (ps := ["row"]) fun _ _ _ _ _ _ us hl => match us, hl with | [_], _ => rfl
  have g_boxes_in := PySem.W.mg_of X G a_boxes_in
  have F__law_digit := fun_mk (st := s__law_digit) l__law_digit c__law_digit k__law_digit
  have b__law_digit := F__law_digit.binds (ps := ["_law_state", "_law_base"]) fun _ _ _ _ _ _ us hl => match us, hl with | [_, _], _ => rfl
  have g__law_digit := PySem.W.mg_of X G a__law_digit
  have F__law_figures := fun_mk (st := s__law_figures) l__law_figures c__law_figures k__law_figures
  have b__law_figures := F__law_figures.binds (ps := ["_law_number"]) fun _ _ _ _ _ _ us hl => match us, hl with | [_], _ => rfl
  have g__law_figures := PySem.W.mg_of X G a__law_figures
  have F__law_number_at := fun_mk (st := s__law_number_at) l__law_number_at c__law_number_at k__law_number_at
  have b__law_number_at := F__law_number_at.binds (ps := ["_law_row", "_law_at"]) fun _ _ _ _ _ _ us hl => match us, hl with | [_, _], _ => rfl
  have g__law_number_at := PySem.W.mg_of X G a__law_number_at
  have F__law_odd_row := fun_mk (st := s__law_odd_row) l__law_odd_row c__law_odd_row k__law_odd_row
  have b__law_odd_row := F__law_odd_row.binds (ps := ["_law_state", "_law_row"]) fun _ _ _ _ _ _ us hl => match us, hl with | [_, _], _ => rfl
  have g__law_odd_row := PySem.W.mg_of X G a__law_odd_row
  have F__law_bytes := fun_mk (st := s__law_bytes) l__law_bytes c__law_bytes k__law_bytes
  have b__law_bytes := F__law_bytes.binds (ps := ["_law_state", "_law_many"]) fun _ _ _ _ _ _ us hl => match us, hl with | [_, _], _ => rfl
  have g__law_bytes := PySem.W.mg_of X G a__law_bytes
  have F__law_sum := fun_mk (st := s__law_sum) l__law_sum c__law_sum k__law_sum
  have b__law_sum := F__law_sum.binds (ps := ["_law_row", "_law_number"]) fun _ _ _ _ _ _ us hl => match us, hl with | [_, _], _ => rfl
  have g__law_sum := PySem.W.mg_of X G a__law_sum
  have F__law_stuffed := fun_mk (st := s__law_stuffed) l__law_stuffed c__law_stuffed k__law_stuffed
  have b__law_stuffed := F__law_stuffed.binds (ps := ["_law_row"]) fun _ _ _ _ _ _ us hl => match us, hl with | [_], _ => rfl
  have g__law_stuffed := PySem.W.mg_of X G a__law_stuffed
  have F__law_boxed := fun_mk (st := s__law_boxed) l__law_boxed c__law_boxed k__law_boxed
  have b__law_boxed := F__law_boxed.binds (ps := ["_law_kind", "_law_body"]) fun _ _ _ _ _ _ us hl => match us, hl with | [_, _], _ => rfl
  have g__law_boxed := PySem.W.mg_of X G a__law_boxed
  have F__law_contents := fun_mk (st := s__law_contents) l__law_contents c__law_contents k__law_contents
  have b__law_contents := F__law_contents.binds (ps := ["_law_row", "_law_at"]) fun _ _ _ _ _ _ us hl => match us, hl with | [_, _], _ => rfl
  have g__law_contents := PySem.W.mg_of X G a__law_contents
  have F__law_box_at := fun_mk (st := s__law_box_at) l__law_box_at c__law_box_at k__law_box_at
  have b__law_box_at := F__law_box_at.binds (ps := ["_law_row", "_law_at"]) fun _ _ _ _ _ _ us hl => match us, hl with | [_, _], _ => rfl
  have g__law_box_at := PySem.W.mg_of X G a__law_box_at
  have F__law_boxes_in := fun_mk (st := s__law_boxes_in) l__law_boxes_in c__law_boxes_in k__law_boxes_in
  have b__law_boxes_in := F__law_boxes_in.binds (ps := ["_law_row"]) fun _ _ _ _ _ _ us hl => match us, hl with | [_], _ => rfl
  have g__law_boxes_in := PySem.W.mg_of X G a__law_boxes_in
  have F__law_thing := fun_mk (st := s__law_thing) l__law_thing c__law_thing k__law_thing
  have b__law_thing := F__law_thing.binds (ps := ["_law_state"]) fun _ _ _ _ _ _ us hl => match us, hl with | [_], _ => rfl
  have g__law_thing := PySem.W.mg_of X G a__law_thing
  have F__law_refused := fun_mk (st := s__law_refused) l__law_refused c__law_refused k__law_refused
  have b__law_refused := F__law_refused.binds (ps := ["_law_row"]) fun _ _ _ _ _ _ us hl => match us, hl with | [_], _ => rfl
  have g__law_refused := PySem.W.mg_of X G a__law_refused
  have F__law_apart := fun_mk (st := s__law_apart) l__law_apart c__law_apart k__law_apart
  have b__law_apart := F__law_apart.binds (ps := ["_law_found", "_law_row"]) fun _ _ _ _ _ _ us hl => match us, hl with | [_, _], _ => rfl
  have g__law_apart := PySem.W.mg_of X G a__law_apart
  have F_law := fun_mk (st := s_law) l_law c_law k_law
  have b_law := F_law.binds (ps := ["_law_script"]) fun _ _ _ _ _ _ us hl => match us, hl with | [_], _ => rfl
  have g_law := PySem.W.mg_of X G a_law
  have F_boxes_in__any := F_boxes_in
  have b_boxes_in__any := b_boxes_in
  have g_boxes_in__any := g_boxes_in
  have k_boxes_in__any := k_boxes_in
  have T_NoBytes : ExcR K mg "NoBytes" C_NoBytes := ⟨⟨PySem.W.mg_of X G xca_NoBytes, ⟨xchg_NoBytes, xchk_NoBytes, xchs_NoBytes, xchd_NoBytes, xcha_NoBytes, xhn, xht, xchm_NoBytes⟩, xcty_NoBytes, xckp_NoBytes, xcve_NoBytes, xcis_NoBytes, xcself_NoBytes⟩, xcex_NoBytes⟩
  have T_ScrollError : ExcR K mg "ScrollError" C_ScrollError := ⟨⟨PySem.W.mg_of X G xca_ScrollError, ⟨xchg_ScrollError, xchk_ScrollError, xchs_ScrollError, xchd_ScrollError, xcha_ScrollError, xhn, xht, xchm_ScrollError⟩, xcty_ScrollError, xckp_ScrollError, xcve_ScrollError, xcis_ScrollError, xcself_ScrollError⟩, xcex_ScrollError⟩
  have T_NoKind : ExcR K mg "NoKind" C_NoKind := ⟨⟨PySem.W.mg_of X G xca_NoKind, ⟨xchg_NoKind, xchk_NoKind, xchs_NoKind, xchd_NoKind, xcha_NoKind, xhn, xht, xchm_NoKind⟩, xcty_NoKind, xckp_NoKind, xcve_NoKind, xcis_NoKind, xcself_NoKind⟩, xcex_NoKind⟩
  have T_NoPlace : ExcR K mg "NoPlace" C_NoPlace := ⟨⟨PySem.W.mg_of X G xca_NoPlace, ⟨xchg_NoPlace, xchk_NoPlace, xchs_NoPlace, xchd_NoPlace, xcha_NoPlace, xhn, xht, xchm_NoPlace⟩, xcty_NoPlace, xckp_NoPlace, xcve_NoPlace, xcis_NoPlace, xcself_NoPlace⟩, xcex_NoPlace⟩
  have c_GREATEST : CI mg "GREATEST" 1000000000000000000000000000000000000000000000000000000000000 := ⟨⟨_, PySem.W.mg_of X G cg_GREATEST⟩⟩
  have c_START : CT K mg "START" C_START (⟨0, 0, 1⟩ : (Tp3 Int Int Int)) := ⟨PySem.W.mg_of X G cg_START, fun B => .tup (Or.inr ⟨_, _, _, cl_START, rfl, rfl, by show 3 ≤ sizeLine; decide, (.cons (show L2.RelV (.int 0) (.int 0 tk_START_0) from ⟨_, rfl⟩) (.cons (show L2.RelV (.int 0) (.int 0 tk_START_1) from ⟨_, rfl⟩) (.cons (show L2.RelV (.int 1) (.int 1 tk_START_2) from ⟨_, rfl⟩) .nil)))⟩) (.cons (Rep.int _) (.cons (Rep.int _) (.cons (Rep.int _) .nil)))⟩
  have c_MOST_BODY : CI mg "MOST_BODY" 60000 := ⟨⟨_, PySem.W.mg_of X G cg_MOST_BODY⟩⟩
  have c_END : CI mg "END" 255 := ⟨⟨_, PySem.W.mg_of X G cg_END⟩⟩
  have bI_isinstance := PySem.W.mg_none_of X G z_isinstance
  have bI_int := PySem.W.mg_none_of X G z_int
  have bI_bool := PySem.W.mg_none_of X G z_bool
  have bI_list := PySem.W.mg_none_of X G z_list
  have bI_all := PySem.W.mg_none_of X G z_all
  have bI_len := PySem.W.mg_none_of X G z_len
  have bI_divmod := PySem.W.mg_none_of X G z_divmod
  have bI_range := PySem.W.mg_none_of X G z_range
  have bI_tuple := PySem.W.mg_none_of X G z_tuple
  refine ⟨_, fun s v => (.of_eq rfl : BindsTo s (PySem.W.fnOf "law" "law" (defArgs s_law) (defBody s_law) (defScope s_law) .none kV_law dc_law pm_law an_law cd_law ct_law) ⟨[v], []⟩ [("_law_script", v)]), fun base _ _ => ?_⟩
  have G_is_whole := ok_is_whole (Pr := l.prog) (wo := w) (base := base) (mg := mg) F_is_whole bI_isinstance bI_int bI_bool
  have G_number_at := ok_number_at (Pr := l.prog) (wo := w) (base := base) (mg := mg) F_number_at c_GREATEST bI_len
  have G_noughts_behind := ok_noughts_behind (Pr := l.prog) (wo := w) (base := base) (mg := mg) F_noughts_behind
  have G_stands_start := ok_stands_start (Pr := l.prog) (wo := w) (base := base) (mg := mg) F_stands_start c_START bI_list
  have G__law_digit := ok__law_digit (Pr := l.prog) (wo := w) (base := base) (mg := mg) F__law_digit bI_len
  have G__law_figures := ok__law_figures (Pr := l.prog) (wo := w) (base := base) (mg := mg) F__law_figures
  have G__law_number_at := ok__law_number_at (Pr := l.prog) (wo := w) (base := base) (mg := mg) F__law_number_at bI_range bI_len
  have G__law_sum := ok__law_sum (Pr := l.prog) (wo := w) (base := base) (mg := mg) F__law_sum
  have G__law_stuffed := ok__law_stuffed (Pr := l.prog) (wo := w) (base := base) (mg := mg) F__law_stuffed bI_int
  have G__law_contents := ok__law_contents (Pr := l.prog) (wo := w) (base := base) (mg := mg) F__law_contents bI_len bI_int
  have G_is_bytes := ok_is_bytes (Pr := l.prog) (wo := w) (base := base) (mg := mg) F_is_bytes g_is_whole k_is_whole b_is_whole G_is_whole bI_isinstance bI_list bI_all
  have G_unstuffed_from := ok_unstuffed_from (Pr := l.prog) (wo := w) (base := base) (mg := mg) F_unstuffed_from g_noughts_behind k_noughts_behind b_noughts_behind G_noughts_behind bI_len
  have G_starts_in := ok_starts_in (Pr := l.prog) (wo := w) (base := base) (mg := mg) F_starts_in g_stands_start k_stands_start b_stands_start G_stands_start bI_range bI_len
  have G__law_odd_row := ok__law_odd_row (Pr := l.prog) (wo := w) (base := base) (mg := mg) F__law_odd_row g__law_digit k__law_digit b__law_digit G__law_digit bI_len bI_tuple
  have G__law_bytes := ok__law_bytes (Pr := l.prog) (wo := w) (base := base) (mg := mg) F__law_bytes g__law_digit k__law_digit b__law_digit G__law_digit bI_range
  have G__law_boxed := ok__law_boxed (Pr := l.prog) (wo := w) (base := base) (mg := mg) F__law_boxed g__law_figures k__law_figures b__law_figures G__law_figures g__law_stuffed k__law_stuffed b__law_stuffed G__law_stuffed g__law_sum k__law_sum b__law_sum G__law_sum bI_list bI_divmod bI_len
  have G__law_box_at := ok__law_box_at (Pr := l.prog) (wo := w) (base := base) (mg := mg) F__law_box_at g__law_contents k__law_contents b__law_contents G__law_contents g__law_number_at k__law_number_at b__law_number_at G__law_number_at g__law_sum k__law_sum b__law_sum G__law_sum bI_len bI_list bI_divmod
  have G_sure_row := ok_sure_row (Pr := l.prog) (wo := w) (base := base) (mg := mg) F_sure_row T_NoBytes g_is_bytes k_is_bytes b_is_bytes G_is_bytes
  have G_size_at := ok_size_at (Pr := l.prog) (wo := w) (base := base) (mg := mg) F_size_at g_unstuffed_from k_unstuffed_from b_unstuffed_from G_unstuffed_from g_number_at k_number_at b_number_at G_number_at
  have G__law_boxes_in := ok__law_boxes_in (Pr := l.prog) (wo := w) (base := base) (mg := mg) F__law_boxes_in g__law_box_at k__law_box_at b__law_box_at G__law_box_at bI_range bI_len
  have G__law_thing := ok__law_thing (Pr := l.prog) (wo := w) (base := base) (mg := mg) F__law_thing g__law_digit k__law_digit b__law_digit G__law_digit g__law_boxed k__law_boxed b__law_boxed G__law_boxed g__law_bytes k__law_bytes b__law_bytes G__law_bytes bI_len
  have G__law_apart := ok__law_apart (Pr := l.prog) (wo := w) (base := base) (mg := mg) F__law_apart g__law_box_at k__law_box_at b__law_box_at G__law_box_at bI_all bI_range bI_len
  have G_check := ok_check (Pr := l.prog) (wo := w) (base := base) (mg := mg) F_check g_sure_row k_sure_row b_sure_row G_sure_row
  have G_boxes_in__any := ok_boxes_in__any (Pr := l.prog) (wo := w) (base := base) (mg := mg) F_boxes_in__any g_sure_row k_sure_row b_sure_row G_sure_row
  have G_check_bytes := ok_check_bytes (Pr := l.prog) (wo := w) (base := base) (mg := mg) F_check_bytes g_check k_check b_check G_check bI_list bI_divmod
  have G__law_refused := ok__law_refused (Pr := l.prog) (wo := w) (base := base) (mg := mg) F__law_refused T_NoBytes T_ScrollError T_NoKind T_NoPlace p_NoBytes_NoBytes p_NoBytes_NoKind p_NoBytes_NoPlace g_boxes_in__any k_boxes_in__any b_boxes_in__any G_boxes_in__any bI_isinstance
  have G_box_there := ok_box_there (Pr := l.prog) (wo := w) (base := base) (mg := mg) F_box_there c_MOST_BODY c_END g_size_at k_size_at b_size_at G_size_at g_unstuffed_from k_unstuffed_from b_unstuffed_from G_unstuffed_from g_stands_start k_stands_start b_stands_start G_stands_start g_check_bytes k_check_bytes b_check_bytes G_check_bytes bI_len
  have G_boxes_in := ok_boxes_in (Pr := l.prog) (wo := w) (base := base) (mg := mg) F_boxes_in g_sure_row k_sure_row b_sure_row G_sure_row g_starts_in k_starts_in b_starts_in G_starts_in g_box_there k_box_there b_box_there G_box_there
  have G_law := ok_law (Pr := l.prog) (wo := w) (base := base) (mg := mg) F_law g__law_boxes_in k__law_boxes_in b__law_boxes_in G__law_boxes_in g__law_digit k__law_digit b__law_digit G__law_digit g__law_apart k__law_apart b__law_apart G__law_apart g_boxes_in k_boxes_in b_boxes_in G_boxes_in g__law_refused k__law_refused b__law_refused G__law_refused g__law_thing k__law_thing b__law_thing G__law_thing g__law_odd_row k__law_odd_row b__law_odd_row G__law_odd_row bI_range bI_list bI_isinstance bI_tuple
  exact G_law.imp fun vs H Q E h => top_of law_ok h
end A
open PySem PySem.W PyProof.Rows
set_option maxRecDepth 100000 in
set_option maxHeartbeats 0 in
theorem PySem.Challenge.cw_lanescroll_k35_boxes_in_any_bytes_holds : PySem.Challenge.rw_lanescroll_k35_boxes_in_any_bytes.Holds := by
  w_on; o_law; k_head; (case hw => w_witness2)
  k_fill
  refine Y.walk_top (l := PySem.Challenge.rw_lanescroll_k35_boxes_in_any_bytes) (k := 8) (x := "_law_script") rfl rfl ⟨rfl, by decide, by decide⟩ (fun w h Y => PySem.W.kIn_of Y) ?F
  case F =>
    intro w mg fa h KX G hmg
    refine' A.all_mk KX G hmg ?a_is_whole ?l_is_whole ?c_is_whole ?k_is_whole ?a_is_bytes ?l_is_bytes ?c_is_bytes ?k_is_bytes ?a_sure_row ?l_sure_row ?c_sure_row ?k_sure_row ?a_number_at ?l_number_at ?c_number_at ?k_number_at ?a_check ?l_check ?c_check ?k_check ?a_noughts_behind ?l_noughts_behind ?c_noughts_behind ?k_noughts_behind ?a_unstuffed_from ?l_unstuffed_from ?c_unstuffed_from ?k_unstuffed_from ?a_check_bytes ?l_check_bytes ?c_check_bytes ?k_check_bytes ?a_stands_start ?l_stands_start ?c_stands_start ?k_stands_start ?a_starts_in ?l_starts_in ?c_starts_in ?k_starts_in ?a_size_at ?l_size_at ?c_size_at ?k_size_at ?a_box_there ?l_box_there ?c_box_there ?k_box_there ?a_boxes_in ?l_boxes_in ?c_boxes_in ?k_boxes_in ?a__law_digit ?l__law_digit ?c__law_digit ?k__law_digit ?a__law_figures ?l__law_figures ?c__law_figures ?k__law_figures ?a__law_number_at ?l__law_number_at ?c__law_number_at ?k__law_number_at ?a__law_odd_row ?l__law_odd_row ?c__law_odd_row ?k__law_odd_row ?a__law_bytes ?l__law_bytes ?c__law_bytes ?k__law_bytes ?a__law_sum ?l__law_sum ?c__law_sum ?k__law_sum ?a__law_stuffed ?l__law_stuffed ?c__law_stuffed ?k__law_stuffed ?a__law_boxed ?l__law_boxed ?c__law_boxed ?k__law_boxed ?a__law_contents ?l__law_contents ?c__law_contents ?k__law_contents ?a__law_box_at ?l__law_box_at ?c__law_box_at ?k__law_box_at ?a__law_boxes_in ?l__law_boxes_in ?c__law_boxes_in ?k__law_boxes_in ?a__law_thing ?l__law_thing ?c__law_thing ?k__law_thing ?a__law_refused ?l__law_refused ?c__law_refused ?k__law_refused ?a__law_apart ?l__law_apart ?c__law_apart ?k__law_apart ?a_law ?l_law ?c_law ?k_law ?xca_NoBytes ?xchg_NoBytes ?xchk_NoBytes ?xchs_NoBytes ?xchd_NoBytes ?xcha_NoBytes ?xchm_NoBytes ?xcty_NoBytes ?xckp_NoBytes ?xcve_NoBytes ?xcis_NoBytes ?xcself_NoBytes ?xcex_NoBytes ?xca_ScrollError ?xchg_ScrollError ?xchk_ScrollError ?xchs_ScrollError ?xchd_ScrollError ?xcha_ScrollError ?xchm_ScrollError ?xcty_ScrollError ?xckp_ScrollError ?xcve_ScrollError ?xcis_ScrollError ?xcself_ScrollError ?xcex_ScrollError ?xca_NoKind ?xchg_NoKind ?xchk_NoKind ?xchs_NoKind ?xchd_NoKind ?xcha_NoKind ?xchm_NoKind ?xcty_NoKind ?xckp_NoKind ?xcve_NoKind ?xcis_NoKind ?xcself_NoKind ?xcex_NoKind ?xca_NoPlace ?xchg_NoPlace ?xchk_NoPlace ?xchs_NoPlace ?xchd_NoPlace ?xcha_NoPlace ?xchm_NoPlace ?xcty_NoPlace ?xckp_NoPlace ?xcve_NoPlace ?xcis_NoPlace ?xcself_NoPlace ?xcex_NoPlace ?cg_GREATEST ?cg_START ?cl_START ?cg_MOST_BODY ?cg_END ?p_NoBytes_NoBytes ?p_NoBytes_NoKind ?p_NoBytes_NoPlace ?xhn ?xht ?z_isinstance ?z_int ?z_bool ?z_list ?z_all ?z_len ?z_divmod ?z_range ?z_tuple
    (case a_is_whole => k_is)
    (case l_is_whole => k_is)
    (case c_is_whole => k_is)
    (case k_is_whole => k_is)
    (case a_is_bytes => k_is)
    (case l_is_bytes => k_is)
    (case c_is_bytes => k_is)
    (case k_is_bytes => k_is)
    (case a_sure_row => k_is)
    (case l_sure_row => k_is)
    (case c_sure_row => k_is)
    (case k_sure_row => k_is)
    (case a_number_at => k_is)
    (case l_number_at => k_is)
    (case c_number_at => k_is)
    (case k_number_at => k_is)
    (case a_check => k_is)
    (case l_check => k_is)
    (case c_check => k_is)
    (case k_check => k_is)
    (case a_noughts_behind => k_is)
    (case l_noughts_behind => k_is)
    (case c_noughts_behind => k_is)
    (case k_noughts_behind => k_is)
    (case a_unstuffed_from => k_is)
    (case l_unstuffed_from => k_is)
    (case c_unstuffed_from => k_is)
    (case k_unstuffed_from => k_is)
    (case a_check_bytes => k_is)
    (case l_check_bytes => k_is)
    (case c_check_bytes => k_is)
    (case k_check_bytes => k_is)
    (case a_stands_start => k_is)
    (case l_stands_start => k_is)
    (case c_stands_start => k_is)
    (case k_stands_start => k_is)
    (case a_starts_in => k_is)
    (case l_starts_in => k_is)
    (case c_starts_in => k_is)
    (case k_starts_in => k_is)
    (case a_size_at => k_is)
    (case l_size_at => k_is)
    (case c_size_at => k_is)
    (case k_size_at => k_is)
    (case a_box_there => k_is)
    (case l_box_there => k_is)
    (case c_box_there => k_is)
    (case k_box_there => k_is)
    (case a_boxes_in => k_is)
    (case l_boxes_in => k_is)
    (case c_boxes_in => k_is)
    (case k_boxes_in => k_is)
    (case a__law_digit => k_is)
    (case l__law_digit => k_is)
    (case c__law_digit => k_is)
    (case k__law_digit => k_is)
    (case a__law_figures => k_is)
    (case l__law_figures => k_is)
    (case c__law_figures => k_is)
    (case k__law_figures => k_is)
    (case a__law_number_at => k_is)
    (case l__law_number_at => k_is)
    (case c__law_number_at => k_is)
    (case k__law_number_at => k_is)
    (case a__law_odd_row => k_is)
    (case l__law_odd_row => k_is)
    (case c__law_odd_row => k_is)
    (case k__law_odd_row => k_is)
    (case a__law_bytes => k_is)
    (case l__law_bytes => k_is)
    (case c__law_bytes => k_is)
    (case k__law_bytes => k_is)
    (case a__law_sum => k_is)
    (case l__law_sum => k_is)
    (case c__law_sum => k_is)
    (case k__law_sum => k_is)
    (case a__law_stuffed => k_is)
    (case l__law_stuffed => k_is)
    (case c__law_stuffed => k_is)
    (case k__law_stuffed => k_is)
    (case a__law_boxed => k_is)
    (case l__law_boxed => k_is)
    (case c__law_boxed => k_is)
    (case k__law_boxed => k_is)
    (case a__law_contents => k_is)
    (case l__law_contents => k_is)
    (case c__law_contents => k_is)
    (case k__law_contents => k_is)
    (case a__law_box_at => k_is)
    (case l__law_box_at => k_is)
    (case c__law_box_at => k_is)
    (case k__law_box_at => k_is)
    (case a__law_boxes_in => k_is)
    (case l__law_boxes_in => k_is)
    (case c__law_boxes_in => k_is)
    (case k__law_boxes_in => k_is)
    (case a__law_thing => k_is)
    (case l__law_thing => k_is)
    (case c__law_thing => k_is)
    (case k__law_thing => k_is)
    (case a__law_refused => k_is)
    (case l__law_refused => k_is)
    (case c__law_refused => k_is)
    (case k__law_refused => k_is)
    (case a__law_apart => k_is)
    (case l__law_apart => k_is)
    (case c__law_apart => k_is)
    (case k__law_apart => k_is)
    (case a_law => k_is)
    (case l_law => k_is)
    (case c_law => k_is)
    (case k_law => k_is)
    (case xca_NoBytes => k_is)
    (case xchg_NoBytes => k_is)
    (case xchk_NoBytes => k_is)
    (case xchs_NoBytes => k_is)
    (case xchd_NoBytes => k_is)
    (case xcha_NoBytes => k_is)
    (case xchm_NoBytes => k_is)
    (case xcty_NoBytes => k_is)
    (case xckp_NoBytes => k_is)
    (case xcve_NoBytes => k_is)
    (case xcis_NoBytes => k_is)
    (case xcself_NoBytes => k_is)
    (case xcex_NoBytes => k_exc)
    (case xca_ScrollError => k_is)
    (case xchg_ScrollError => k_is)
    (case xchk_ScrollError => k_is)
    (case xchs_ScrollError => k_is)
    (case xchd_ScrollError => k_is)
    (case xcha_ScrollError => k_is)
    (case xchm_ScrollError => k_is)
    (case xcty_ScrollError => k_is)
    (case xckp_ScrollError => k_is)
    (case xcve_ScrollError => k_is)
    (case xcis_ScrollError => k_is)
    (case xcself_ScrollError => k_is)
    (case xcex_ScrollError => k_exc)
    (case xca_NoKind => k_is)
    (case xchg_NoKind => k_is)
    (case xchk_NoKind => k_is)
    (case xchs_NoKind => k_is)
    (case xchd_NoKind => k_is)
    (case xcha_NoKind => k_is)
    (case xchm_NoKind => k_is)
    (case xcty_NoKind => k_is)
    (case xckp_NoKind => k_is)
    (case xcve_NoKind => k_is)
    (case xcis_NoKind => k_is)
    (case xcself_NoKind => k_is)
    (case xcex_NoKind => k_exc)
    (case xca_NoPlace => k_is)
    (case xchg_NoPlace => k_is)
    (case xchk_NoPlace => k_is)
    (case xchs_NoPlace => k_is)
    (case xchd_NoPlace => k_is)
    (case xcha_NoPlace => k_is)
    (case xchm_NoPlace => k_is)
    (case xcty_NoPlace => k_is)
    (case xckp_NoPlace => k_is)
    (case xcve_NoPlace => k_is)
    (case xcis_NoPlace => k_is)
    (case xcself_NoPlace => k_is)
    (case xcex_NoPlace => k_exc)
    (case cg_GREATEST => k_is)
    (case cg_START => k_is)
    (case cl_START => k_is)
    (case cg_MOST_BODY => k_is)
    (case cg_END => k_is)
    (case p_NoBytes_NoBytes => k_is)
    (case p_NoBytes_NoKind => k_is)
    (case p_NoBytes_NoPlace => k_is)
    (case xhn => k_is)
    (case xht => k_is)
    (case z_isinstance => k_is)
    (case z_int => k_is)
    (case z_bool => k_is)
    (case z_list => k_is)
    (case z_all => k_is)
    (case z_len => k_is)
    (case z_divmod => k_is)
    (case z_range => k_is)
    (case z_tuple => k_is)
