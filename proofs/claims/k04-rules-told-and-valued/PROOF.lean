import PyProof.Rows.All
import Wide.All
import OpenK.AllK
import Wide.FinOn
import HandS.ForMost
import HandS.Evl
import HandS.IsInst
import HandS.Flow
import HandS.Defaults
import HandS.Wide
import HandS.WideMore
import HandS.Style
import HandS.ForExc
import HandS.TryOnly
import HandS.CallSlots
import HandS.ExcIs
import HandS.Walk
import HandS.Iter
import HandS.More
import HandS.TryMany
import HandS.ClsMeth
import HandS.TupAny
import HandS.SortKw
import HandS.WideBits
import HandS.Deep
import HandS.FStr
import KE.KCallOwn
import PyProof.Rows.FactsN_divmod
import PySem.Challenge.RW_lanescroll_k04_rules_told_and_valued
set_option Elab.async false
set_option linter.all false
set_option maxRecDepth 100000
set_option maxHeartbeats 2000000
namespace Y
open PySem PySem.Spec PyProof.Rows
open L2

/-- data: what a value stands for, through the heap -/
inductive D where
  | non | bl (b : Bool) | int (i : Int) | str (x : Str)
  | lst (ds : List D) | tup (ds : List D) | dic (kvs : List (Key × D))
  | obj (nm : Str) (fs : List (Str × D))

/-- a class of the text: its name, its address; what isinstance asks -/
structure KC (K : PySem.W.Frag) (nm : Str) (C : Addr) : Prop where
  a : PySem.W.nsIn K mainGlobals nm = some (some (.ref C))
  c : Cls K C
  ha : PySem.W.findIn K (.ref C) "__class__" = some (some (.builtin "object.__class__"))
  hn : PySem.W.specialIn K (.builtin "object.__class__") "__get__" = some (some (.builtin "getset_descriptor.__get__"))
  ht : PySem.W.takesIn K (.builtin "object.__class__") = some true
  hm : PySem.W.mroIn K C (.type "object") = some true
  bt : ∀ t ∈ ["bool", "int", "str", "list", "tuple", "dict"], PySem.W.subIn K (.ref C) (.type t) = some false

abbrev Ex (H H' : Hp) : Prop := ∀ a o, H a = some o → H' a = some o
theorem Ex.refl (H : Hp) : Ex H H := fun _ _ h => h
theorem Ex.trans {H H1 H2 : Hp} (a : Ex H H1) (b : Ex H1 H2) : Ex H H2 := fun x o h => b x o (a x o h)
theorem Ex.new {H : Hp} {p : Addr} {o : HO} (h : H p = none) : Ex H (upd H p o) := fun a u e => by
  rw [upd_ne (ne_of_none e h)]
  exact e
theorem Ex.upd {B H : Hp} {p : Addr} {o : HO} (e : Ex B H) (h : B p = none) : Ex B (upd H p o) := fun a u ha => by
  rw [upd_ne (ne_of_none ha h)]
  exact e a u ha
theorem Ex.both {B H : Hp} {p : Addr} {o : HO} (e : Ex B H) : Ex (L2.upd B p o) (L2.upd H p o) := fun a u ha => by
  by_cases q : a = p
  · subst q; rw [upd_same] at ha; cases ha; exact upd_same
  · rw [upd_ne q] at ha; rw [upd_ne q]; exact e a u ha
theorem Ex.none {H H' : Hp} {p : Addr} (e : Ex H H') (h : H' p = none) : H p = none := by
  cases h1 : H p with
  | none => rfl
  | some o => rw [e p o h1] at h; cases h
theorem Ex.rd {H H' : Hp} {a : Addr} {u : HO} (e : Ex H H') (h : Rd H a u) : Rd H' a u := by
  rcases h with h | ⟨o, h⟩
  · exact Or.inl (e a _ h)
  · exact Or.inr ⟨o, e a _ h⟩
theorem Ex.l {K : PySem.W.Frag} {H H' : Hp} {a : Addr} {xs : List V} (e : Ex H H') (h : SqL K H a xs) : SqL K H' a xs := by
  rcases h with h | h
  · exact Or.inl (e.rd h)
  · exact Or.inr h
theorem Ex.t {K : PySem.W.Frag} {H H' : Hp} {a : Addr} {xs : List V} (e : Ex H H') (h : SqT K H a xs) : SqT K H' a xs := by
  rcases h with h | h
  · exact Or.inl (e.rd h)
  · exact Or.inr h

mutual
/-- v stands for d -/
inductive Rep (K : PySem.W.Frag) (B : Hp) : V → D → Prop where
  | non : Rep K B .non .non
  | bl (b : Bool) : Rep K B (.bl b) (.bl b)
  | int (i : Int) : Rep K B (.int i) (.int i)
  | str (x : Str) : Rep K B (.str x) (.str x)
  | lst {p : Addr} {xs : List V} {ds : List D} (h : SqL K B p xs) (r : RepL K B xs ds) : Rep K B (.ref p) (.lst ds)
  | tup {p : Addr} {xs : List V} {ds : List D} (h : SqT K B p xs) (r : RepL K B xs ds) : Rep K B (.ref p) (.tup ds)
  | dic {p : Addr} {kvs : List (Key × V)} {ds : List (Key × D)} (h : B p = some (.dK kvs)) (r : RepK K B kvs ds) : Rep K B (.ref p) (.dic ds)
  | obj {p C dx : Addr} {nm : Str} {fs : List (Str × V)} {ds : List (Str × D)} (h : B p = some (.ins C dx fs)) (k : KC K nm C) (r : RepF K B fs ds) : Rep K B (.ref p) (.obj nm ds)
inductive RepL (K : PySem.W.Frag) (B : Hp) : List V → List D → Prop where
  | nil : RepL K B [] []
  | cons {v : V} {d : D} {vs : List V} {ds : List D} (h : Rep K B v d) (t : RepL K B vs ds) : RepL K B (v :: vs) (d :: ds)
inductive RepK (K : PySem.W.Frag) (B : Hp) : List (Key × V) → List (Key × D) → Prop where
  | nil : RepK K B [] []
  | cons {k : Key} {v : V} {d : D} {vs : List (Key × V)} {ds : List (Key × D)} (h : Rep K B v d) (t : RepK K B vs ds) : RepK K B ((k, v) :: vs) ((k, d) :: ds)
inductive RepF (K : PySem.W.Frag) (B : Hp) : List (Str × V) → List (Str × D) → Prop where
  | nil : RepF K B [] []
  | cons {k : Str} {v : V} {d : D} {vs : List (Str × V)} {ds : List (Str × D)} (h : Rep K B v d) (t : RepF K B vs ds) : RepF K B ((k, v) :: vs) ((k, d) :: ds)
end
section
variable {K : PySem.W.Frag} {B B' H : Hp}
mutual
theorem Rep.mono (e : Ex B B') : ∀ {v : V} {d : D}, Rep K B v d → Rep K B' v d
  | _, _, .non => .non
  | _, _, .bl b => .bl b
  | _, _, .int i => .int i
  | _, _, .str x => .str x
  | _, _, .lst h r => .lst (e.l h) (RepL.mono e r)
  | _, _, .tup h r => .tup (e.t h) (RepL.mono e r)
  | _, _, .dic h r => .dic (e _ _ h) (RepK.mono e r)
  | _, _, .obj h k r => .obj (e _ _ h) k (RepF.mono e r)
theorem RepL.mono (e : Ex B B') : ∀ {vs : List V} {ds : List D}, RepL K B vs ds → RepL K B' vs ds
  | _, _, .nil => .nil
  | _, _, .cons h t => .cons (Rep.mono e h) (RepL.mono e t)
theorem RepK.mono (e : Ex B B') : ∀ {vs : List (Key × V)} {ds : List (Key × D)}, RepK K B vs ds → RepK K B' vs ds
  | _, _, .nil => .nil
  | _, _, .cons h t => .cons (Rep.mono e h) (RepK.mono e t)
theorem RepF.mono (e : Ex B B') : ∀ {vs : List (Str × V)} {ds : List (Str × D)}, RepF K B vs ds → RepF K B' vs ds
  | _, _, .nil => .nil
  | _, _, .cons h t => .cons (Rep.mono e h) (RepF.mono e t)
end
theorem RepL.length : ∀ {vs : List V} {ds : List D}, RepL K B vs ds → vs.length = ds.length
  | _, _, .nil => rfl
  | _, _, .cons _ t => congrArg Nat.succ (RepL.length t)
theorem RepL.get : ∀ {vs : List V} {ds : List D} {i : Nat} {d : D}, RepL K B vs ds → ds[i]? = some d → ∃ v, vs[i]? = some v ∧ Rep K B v d
  | _, _, _, _, .nil, e => by simp at e
  | _, _, 0, _, .cons r _, e => by simp at e; subst e; exact ⟨_, rfl, r⟩
  | _, _, i + 1, x, .cons _ t, e => by
    obtain ⟨u, h1, h2⟩ := RepL.get (i := i) (d := x) t (by simpa using e)
    exact ⟨u, by simpa using h1, h2⟩
theorem RepL.append : ∀ {vs ws : List V} {ds es : List D}, RepL K B vs ds → RepL K B ws es → RepL K B (vs ++ ws) (ds ++ es)
  | _, _, _, _, .nil, s => s
  | _, _, _, _, .cons r t, s => .cons r (RepL.append t s)
theorem RepL.at {vs : List V} {ds : List D} {i : Int} {d : D} (r : RepL K B vs ds) (h : atI ds i = some d) : ∃ v, atI vs i = some v ∧ Rep K B v d := by
  unfold atI at h ⊢
  rw [r.length]
  cases e : ixN ds.length i with
  | none => rw [e] at h; cases h
  | some j => rw [e] at h; exact r.get h
theorem RepL.ints : ∀ (ns : List Int), RepL K B (ns.map V.int) (ns.map D.int)
  | [] => .nil
  | n :: r => .cons (.int n) (RepL.ints r)
theorem RepL.of_ints : ∀ {vs : List V} {ns : List Int}, RepL K B vs (ns.map D.int) → vs = ns.map V.int
  | [], [], _ => rfl
  | _ :: _, [], r => nomatch r
  | [], _ :: _, r => nomatch r
  | v :: vs, n :: ns, r => by
    cases r with
    | cons h t =>
      cases h
      rw [RepL.of_ints t]
      rfl
end

/-- from (B, H), what is known and the heap, to (B', H'), writing at most at W -/
structure Stp (W : List Addr) (B H B' H' : Hp) : Prop where
  ex : Ex B B'
  ok : Ex B' H'
  fr : ∀ a o, a ∉ W → H a = some o → H' a = some o
  al : ∀ a o, H a = some o → ∃ o', H' a = some o'
  nw : ∀ a o, B a = none → H a = some o → B' a = none
section
variable {W W' : List Addr} {B H B' H' B1 H1 B2 H2 : Hp} {p : Addr} {o : HO}
theorem Stp.refl (w : Ex B H) : Stp W B H B H := ⟨Ex.refl B, w, fun _ _ _ h => h, fun _ o h => ⟨o, h⟩, fun _ _ h _ => h⟩
theorem Stp.trans (a : Stp W B H B1 H1) (b : Stp W B1 H1 B2 H2) : Stp W B H B2 H2 :=
  ⟨a.ex.trans b.ex, b.ok, fun x o hx h => b.fr x o hx (a.fr x o hx h), fun x o h => let ⟨o1, h1⟩ := a.al x o h; b.al x o1 h1, fun x o hb h => let ⟨o1, h1⟩ := a.al x o h; b.nw x o1 (a.nw x o hb h) h1⟩
theorem Stp.w (a : Stp W B H B1 H1) (h : ∀ x, x ∈ W → x ∈ W') : Stp W' B H B1 H1 := ⟨a.ex, a.ok, fun x o hx e => a.fr x o (fun z => hx (h x z)) e, a.al, a.nw⟩
theorem Stp.w0 (a : Stp [] B H B1 H1) : Stp W B H B1 H1 := a.w fun _ h => nomatch h
/-- a new object that stays -/
theorem Stp.new (w : Ex B H) (h : H p = none) : Stp W B H (upd B p o) (upd H p o) :=
  ⟨Ex.new (w.none h), w.both, fun a u _ e => Ex.new h a u e, fun a u e => ⟨u, Ex.new h a u e⟩, fun a u hb e => by rw [upd_ne (ne_of_none e h)]; exact hb⟩
/-- a new object that may change -/
theorem Stp.newM (w : Ex B H) (h : H p = none) : Stp W B H B (upd H p o) :=
  ⟨Ex.refl B, w.upd (w.none h), fun a u _ e => Ex.new h a u e, fun a u e => ⟨u, Ex.new h a u e⟩, fun a u hb _ => hb⟩
/-- a changed object of W -/
theorem Stp.set (w : Ex B H) (hp : p ∈ W) (hb : B p = none) {u : HO} (hu : H p = some u) : Stp W B H B (upd H p o) :=
  ⟨Ex.refl B, w.upd hb, fun a u hx e => by rw [upd_ne (fun z => hx (by rw [z]; exact hp))]; exact e, fun a u e => by
    by_cases q : a = p
    · subst q; exact ⟨o, upd_same⟩
    · exact ⟨u, by rw [upd_ne q]; exact e⟩, fun _ _ h _ => h⟩
/-- an object of our own, made behind the entry, changed -/
theorem Stp.own (a : Stp W B H B1 H1) (h0 : H p = none) (hb : B1 p = none) (h : ∃ u, H1 p = some u) : Stp W B H B1 (upd H1 p o) :=
  ⟨a.ex, a.ok.upd hb, fun x u hx e => by rw [upd_ne (ne_of_none e h0)]; exact a.fr x u hx e, fun x u e => by
    rw [upd_ne (ne_of_none e h0)]; exact a.al x u e, a.nw⟩
/-- an object of our own turns into one that stays -/
theorem Stp.keep (w : Ex B H) (a : Stp W B H B1 H1) (h0 : H p = none) (hb : B1 p = none) (h : H1 p = some o) : Stp W B H (upd B1 p o) H1 :=
  ⟨fun x u e => by rw [upd_ne (ne_of_none e (w.none h0))]; exact a.ex x u e, fun x u e => by
    by_cases q : x = p
    · subst q; rw [upd_same] at e; cases e; exact h
    · rw [upd_ne q] at e; exact a.ok x u e, a.fr, a.al, fun x u hb e => by rw [upd_ne (ne_of_none e h0)]; exact a.nw x u hb e⟩
end
/-! ### mirrors -/
/-- an error that is raised: the class's name, what it is told -/
structure Err where
  cls : Str
  args : List D := []
/-- what a mirror gives: a value, an error, or a place that the model does not serve -/
inductive Res (α : Type) where
  | ok (a : α) | err (e : Err) | stuck
def Res.bind {α β : Type} (m : Res α) (k : α → Res β) : Res β := match m with | .ok a => k a | .err e => .err e | .stuck => .stuck
/-- an error that nobody waits for -/
def Res.noErr {α : Type} (m : Res α) : Res α := match m with | .ok a => .ok a | _ => .stuck
instance : Monad Res where
  pure := Res.ok
  bind := Res.bind
def Post0 {α : Type} (m : Res α) (P : α → Prop) (R : Err → Prop) : Prop := match m with | .ok a => P a | .err e => R e | .stuck => False
/-- what the mirror gives is wished for: a structure, so that nothing looks into it -/
structure Post {α : Type} (m : Res α) (P : α → Prop) (R : Err → Prop) : Prop where
  h0 : Post0 m P R
section
variable {α β : Type} {m : Res α} {P P' : α → Prop} {R R' : Err → Prop} {a : α}
theorem Post.mono (h : Post m P R) (hp : ∀ a, P a → P' a) (hr : ∀ e, R e → R' e) : Post m P' R' := by
  obtain ⟨h⟩ := h
  refine ⟨?_⟩
  cases m with
  | ok a => exact hp a h
  | err e => exact hr e h
  | stuck => exact h
theorem Post.bind {k : α → Res β} {P : β → Prop} (h : Post (m.bind k) P R) : Post m (fun a => Post (k a) P R) R := by
  obtain ⟨h⟩ := h
  refine ⟨?_⟩
  cases m
  · exact ⟨h⟩
  · exact h
  · exact h
theorem Post.noErr (h : Post m.noErr P R) : Post m P (fun _ => False) := by
  obtain ⟨h⟩ := h
  refine ⟨?_⟩
  cases m with
  | ok a => exact h
  | err e => exact h
  | stuck => exact h
theorem Post.ok (h : Post (.ok a) P R) : P a := h.h0
theorem Post.err {e : Err} (h : Post (.err e : Res α) P R) : R e := h.h0
theorem Post.elim {C : Prop} (h : Post (.stuck : Res α) P R) : C := False.elim h.h0
theorem Post.mk' (h : P a) : Post (.ok a) P R := ⟨h⟩
theorem Post.iteT {c : Bool} {m m' : Res α} (h : Post (if c = true then m else m') P R) (hc : c = true) : Post m P R := by
  rw [if_pos hc] at h; exact h
theorem Post.iteF {c : Bool} {m m' : Res α} (h : Post (if c = true then m else m') P R) (hc : c = false) : Post m' P R := by
  rw [hc, if_neg Bool.false_ne_true] at h; exact h
theorem Post.is {m' : Res α} (h : Post m P R) (e : m = m') : Post m' P R := e ▸ h
end
/-- an item -/
def ixR {α : Type} (l : List α) (i : Int) : Res α := match atI l i with | some x => .ok x | none => .stuck
theorem Post.ix {α β : Type} {l : List α} {i : Int} {k : α → Res β} {P : β → Prop} {R : Err → Prop} (h : Post ((ixR l i).bind k) P R) : ∃ x, atI l i = some x ∧ Post (k x) P R := by
  unfold ixR at h
  cases e : atI l i with
  | none => rw [e] at h; exact h.elim
  | some x => rw [e] at h; exact ⟨x, rfl, h⟩
/-- where c holds -/
def guardR {α : Type} (c : Prop) [Decidable c] (m : Res α) : Res α := if c then m else .stuck
theorem Post.guard {α : Type} {c : Prop} [Decidable c] {m : Res α} {P : α → Prop} {R : Err → Prop} (h : Post (guardR c m) P R) : c ∧ Post m P R := by
  unfold guardR at h
  by_cases e : c
  · rw [if_pos e] at h; exact ⟨e, h⟩
  · rw [if_neg e] at h; exact h.elim
instance (i j : Int) : Decidable (CMulW i j) := by unfold CMulW; infer_instance
instance (i j : Int) : Decidable (CDivW i j) := by unfold CDivW; infer_instance
/-- a loop's turn: on, or a value that is returned, or out -/
inductive Fl (S R : Type) where
  | nx (s : S) | rt (r : R) | bk (s : S)
def forR {α S R : Type} : List α → S → (α → S → Res (Fl S R)) → Res (Fl S R)
  | [], s, _ => .ok (.nx s)
  | x :: xs, s, f => (f x s).bind fun r => match r with | .nx s' => forR xs s' f | r => .ok r
theorem Post.forS {α S R : Type} {l : List α} {i : Nat} {s : S} {f : α → S → Res (Fl S R)} {P : Fl S R → Prop} {E : Err → Prop} {x : α} (h : Post (forR (l.drop i) s f) P E) (hx : l[i]? = some x) :
    Post (f x s) (fun r => match r with | .nx s' => Post (forR (l.drop (i + 1)) s' f) P E | .rt v => P (.rt v) | .bk s' => P (.bk s')) E := by
  obtain ⟨hi, e⟩ := List.getElem?_eq_some_iff.mp hx
  rw [List.drop_eq_getElem_cons hi, e] at h
  exact (Post.bind h).mono (fun r q => by
    cases r
    · exact q
    · exact q.ok
    · exact q.ok) fun _ q => q
theorem Post.forN {α S R : Type} {l : List α} {i : Nat} {s : S} {f : α → S → Res (Fl S R)} {P : Fl S R → Prop} {E : Err → Prop} (h : Post (forR (l.drop i) s f) P E) (hi : l.length ≤ i) : P (.nx s) := by
  rw [List.drop_eq_nil_of_le hi] at h
  exact h.ok

/-! ### what stands for data -/
class Enc (α : Type) where
  enc : α → D
open Enc (enc)
structure Tp1 (α : Type) where
  a : α
structure Tp2 (α β : Type) where
  a : α
  b : β
structure Tp3 (α β γ : Type) where
  a : α
  b : β
  c : γ
structure Tp4 (α β γ δ : Type) where
  a : α
  b : β
  c : γ
  d : δ
structure Tp5 (α β γ δ ε : Type) where
  a : α
  b : β
  c : γ
  d : δ
  e : ε
instance : Enc Int := ⟨.int⟩
instance : Enc Bool := ⟨.bl⟩
instance : Enc Str := ⟨.str⟩
instance : Enc Unit := ⟨fun _ => .non⟩
instance : Enc D := ⟨id⟩
instance {α : Type} [Enc α] : Enc (List α) := ⟨fun l => .lst (l.map enc)⟩
instance {α : Type} [Enc α] : Enc (Option α) := ⟨fun o => match o with | some x => enc x | none => .non⟩
instance {α : Type} [Enc α] : Enc (Tp1 α) := ⟨fun t => .tup [enc t.a]⟩
instance {α β : Type} [Enc α] [Enc β] : Enc (Tp2 α β) := ⟨fun t => .tup [enc t.a, enc t.b]⟩
instance {α β γ : Type} [Enc α] [Enc β] [Enc γ] : Enc (Tp3 α β γ) := ⟨fun t => .tup [enc t.a, enc t.b, enc t.c]⟩
instance {α β γ δ : Type} [Enc α] [Enc β] [Enc γ] [Enc δ] : Enc (Tp4 α β γ δ) := ⟨fun t => .tup [enc t.a, enc t.b, enc t.c, enc t.d]⟩
instance {α β γ δ ε : Type} [Enc α] [Enc β] [Enc γ] [Enc δ] [Enc ε] : Enc (Tp5 α β γ δ ε) := ⟨fun t => .tup [enc t.a, enc t.b, enc t.c, enc t.d, enc t.e]⟩

/-- a list that may change: at p, outside of what is known for good -/
def Mu (K : PySem.W.Frag) (B H : Hp) (p : Addr) (ds : List D) : Prop := B p = none ∧ ∃ xs, H p = some (.lst xs) ∧ RepL K B xs ds
/-- a list that stands in the written part -/
def KL (K : PySem.W.Frag) (a : Addr) (xs : List V) : Prop := ∃ (o : Obj) (its : Array Value) (n : Nat), K.lookup a = some o ∧ o.cls = .type "list" ∧ o.dict = none ∧ o.data = .seq its n ∧ its.size ≤ sizeLine ∧ Vals xs its.toList
/-- a list that is read: at v now -/
def Bor (K : PySem.W.Frag) (B H : Hp) (W : List Addr) (v : V) (ds : List D) : Prop := ∃ p xs, v = .ref p ∧ ((Rd H p (.lst xs) ∧ p ∉ W) ∨ KL K p xs) ∧ RepL K B xs ds
/-- what a return hands on -/
def Ret (K : PySem.W.Frag) (W : List Addr) (B H : Hp) (d : D) (Q : VK) : Prop := ∀ v B' H', Stp W B H B' H' → Rep K B' v d → Q v H'
/-- .. where the list at p may have changed -/
def RetM (K : PySem.W.Frag) (p : Addr) (B H : Hp) (d : D) (ds : List D) (Q : VK) : Prop := ∀ v B' H', Stp [p] B H B' H' → Mu K B' H' p ds → Rep K B' v d → Q v H'
/-- .. that is raised -/
def Rai (mg : Str → Option Value) (W : List Addr) (B H : Hp) (e : Err) (E : XK) : Prop := ∀ C B' H', mg e.cls = some (.ref C) → Stp W B H B' H' → E (.ref C) none H'
section
variable {K : PySem.W.Frag} {B B' B1 H H' H1 : Hp} {W : List Addr} {p q : Addr} {ds es : List D} {xs : List V} {d : D} {v : V} {Q : VK} {mg : Str → Option Value} {E : XK}
theorem Mu.step (m : Mu K B H p ds) (s : Stp W B H B' H') (h : p ∉ W) : Mu K B' H' p ds := by
  obtain ⟨hb, xs, hp, r⟩ := m
  exact ⟨s.nw p _ hb hp, xs, s.fr p _ h hp, r.mono s.ex⟩
theorem Mu.new (w : Ex B H) (h : H p = none) (r : RepL K B xs ds) : Mu K B (upd H p (.lst xs)) p ds := ⟨w.none h, xs, upd_same, r⟩
theorem Mu.bor (m : Mu K B H p ds) (h : p ∉ W) : Bor K B H W (.ref p) ds := by
  obtain ⟨hb, xs, hp, r⟩ := m
  exact ⟨p, xs, rfl, .inl ⟨.inl hp, h⟩, r⟩
theorem Mu.ne (m : Mu K B H p ds) (h : H q = none) : p ≠ q := by
  obtain ⟨hb, xs, hp, r⟩ := m
  exact ne_of_none hp h
theorem Bor.step (m : Bor K B H W v ds) (s : Stp W B H B' H') : Bor K B' H' W v ds := by
  obtain ⟨p, xs, e, hp, r⟩ := m
  refine ⟨p, xs, e, ?_, r.mono s.ex⟩
  rcases hp with ⟨hp | ⟨o, hp⟩, hw⟩ | hp
  · exact .inl ⟨.inl (s.fr p _ hw hp), hw⟩
  · exact .inl ⟨.inr ⟨o, s.fr p _ hw hp⟩, hw⟩
  · exact .inr hp
theorem Bor.w {W' : List Addr} (m : Bor K B H W v ds) (h : ∀ x, x ∈ W' → x ∈ W) : Bor K B H W' v ds := by
  obtain ⟨p, xs, e, hp, r⟩ := m
  refine ⟨p, xs, e, ?_, r⟩
  rcases hp with ⟨hp, hw⟩ | hp
  · exact .inl ⟨hp, fun z => hw (h p z)⟩
  · exact .inr hp
theorem Bor.sq (m : Bor K B H W v ds) : ∃ p xs, v = .ref p ∧ SqL K H p xs ∧ RepL K B xs ds := by
  obtain ⟨p, xs, e, hp, r⟩ := m
  refine ⟨p, xs, e, ?_, r⟩
  rcases hp with ⟨hp, _⟩ | hp
  · exact .inl hp
  · exact .inr hp
theorem Rep.bor (w : Ex B H) (r : Rep K B v (.lst ds)) (h : ∀ x, x ∈ W → B x = none) : Bor K B H W v ds := by
  cases r with
  | @lst p xs _ hp r =>
    refine ⟨p, xs, rfl, ?_, r⟩
    rcases hp with hp | hp
    · refine .inl ⟨w.rd hp, fun z => ?_⟩
      have e := h p z
      rcases hp with hp | ⟨o, hp⟩
      · rw [hp] at e; cases e
      · rw [hp] at e; cases e
    · exact .inr hp
theorem Rep.bor0 (w : Ex B H) (r : Rep K B v (.lst ds)) : Bor K B H [] v ds := r.bor w (fun _ z => nomatch z)
theorem Rep.sq (w : Ex B H) (r : Rep K B v (.lst ds)) : ∃ p xs, v = .ref p ∧ SqL K H p xs ∧ RepL K B xs ds := by
  cases r with
  | @lst p xs _ hp r => exact ⟨p, xs, rfl, w.l hp, r⟩
theorem Rep.st (w : Ex B H) (r : Rep K B v (.tup ds)) : ∃ p xs, v = .ref p ∧ SqT K H p xs ∧ RepL K B xs ds := by
  cases r with
  | @tup p xs _ hp r => exact ⟨p, xs, rfl, w.t hp, r⟩
theorem Mu.sq (m : Mu K B H p ds) : ∃ xs, H p = some (.lst xs) ∧ SqL K H p xs ∧ RepL K B xs ds := by
  obtain ⟨hb, xs, hp, r⟩ := m
  exact ⟨xs, hp, SqL.of hp, r⟩
theorem Stp.mut (w : Ex B H) (m : Mu K B H p ds) (r : RepL K B xs es) : Stp [p] B H B (upd H p (.lst xs)) ∧ Mu K B (upd H p (.lst xs)) p es := by
  obtain ⟨hb, ys, hp, _⟩ := m
  exact ⟨Stp.set w (by simp) hb hp, hb, xs, upd_same, r⟩
end
/-- the built-in type of a thing -/
def tyD : D → String
  | .non => "NoneType" | .bl _ => "bool" | .int _ => "int" | .str _ => "str" | .lst _ => "list" | .tup _ => "tuple" | .dic _ => "dict" | .obj _ _ => "object"
def isObjD : D → Bool | .obj _ _ => true | _ => false
theorem Rep.ty {K : PySem.W.Frag} {B H : Hp} {v : V} {d : D} (w : Ex B H) (r : Rep K B v d) (hd : isObjD d = false) : TyX K H v (.type (tyD d)) := by
  cases r with
  | obj h k r => exact nomatch hd
  | non => exact .base .non
  | bl b => exact .base (.bl b)
  | int i => exact .base (.int i)
  | str x => exact .base (.str x)
  | lst h r =>
    rcases h with (h | ⟨o, h⟩) | ⟨o, its, n, h, hc, _⟩
    · exact .base (.lst (w _ _ h))
    · exact .base (.frz (w _ _ h))
    · exact .kList h hc
  | tup h r =>
    rcases h with (h | ⟨o, h⟩) | ⟨o, its, n, h, hc, _⟩
    · exact .base (.tup (w _ _ h))
    · exact .fTuple (w _ _ h)
    · exact .kTuple h hc
  | dic h r => exact .base (.dK (w _ _ h))
def isS (s t : String) : Bool := s == t || (s == "bool" && t == "int")
def isA (t : String) (d : D) : Bool := isS (tyD d) t
theorem kit_tab : ∀ s ∈ ["NoneType", "bool", "int", "str", "list", "tuple", "dict"], ∀ t ∈ ["bool", "int", "str", "list", "tuple", "dict"], kitB s t = some (isS s t) := by decide +kernel
theorem tyD_in (d : D) (hd : isObjD d = false) : tyD d ∈ ["NoneType", "bool", "int", "str", "list", "tuple", "dict"] := by
  cases d
  case obj => exact nomatch hd
  all_goals simp [tyD]
theorem isS_obj : ∀ t ∈ ["bool", "int", "str", "list", "tuple", "dict"], isS "object" t = false := by decide +kernel
theorem meta_tab : ∀ t ∈ ["bool", "int", "str", "list", "tuple", "dict"], PySem.W.kitMeta t = true := by decide +kernel
theorem KC.kit {K : PySem.W.Frag} {nm : Str} {C : Addr} (k : KC K nm C) {t : String} (ht : t ∈ ["bool", "int", "str", "list", "tuple", "dict"]) : PySem.W.kitOne K (.ref C) (.type t) = some false := by
  unfold PySem.W.kitOne
  rw [if_neg (by simp)]
  show (if PySem.W.kitMeta t = true then PySem.W.subIn K (.ref C) (.type t) else none) = some false
  rw [if_pos (meta_tab t ht)]
  exact k.bt t ht
theorem KC.tyx {K : PySem.W.Frag} {nm : Str} {C p dx : Addr} {H : Hp} {fs : List (Str × V)} (k : KC K nm C) (h : H p = some (.ins C dx fs)) : TyX K H (.ref p) (.ref C) := .base (.ins h k.c k.ha k.hn k.ht k.hm)
/-- isinstance(x, int | bool | str | list | tuple | dict) -/
theorem isi {K : PySem.W.Frag} {B H : Hp} {v : V} {d : D} {t : String} {Q : VK} (w : Ex B H) (r : Rep K B v d) (q : Q (.bl (isA t d)) H) (ht : t ∈ ["bool", "int", "str", "list", "tuple", "dict"] := by simp) : rIsi K [v, .ty t] H Q := by
  by_cases hd : isObjD d = true
  · cases r with
    | @obj p C dx nm fs ds h k r =>
      have e : isA t (.obj nm ds) = false := isS_obj t ht
      rw [e] at q
      exact ⟨_, .ty t, .ref C, .type t, false, rfl, .ty t, k.tyx (w _ _ h), k.kit ht, q⟩
    | _ => exact nomatch hd
  · have hd := Bool.eq_false_iff.mpr hd
    exact ⟨v, .ty t, _, .type t, isA t d, rfl, .ty t, r.ty w hd, kit_ty (kit_tab _ (tyD_in d hd) _ ht), q⟩
theorem boot_bool : bootBuiltins "bool" = some (.type "bool") := by decide +kernel
theorem boot_int : bootBuiltins "int" = some (.type "int") := by decide +kernel
theorem boot_str : bootBuiltins "str" = some (.type "str") := by decide +kernel
theorem boot_list : bootBuiltins "list" = some (.type "list") := by decide +kernel
theorem boot_tuple : bootBuiltins "tuple" = some (.type "tuple") := by decide +kernel
theorem boot_dict : bootBuiltins "dict" = some (.type "dict") := by decide +kernel

/-! ### readings, step by step -/
def NwL (xs : List V) (H : Hp) (Q : VK) : Prop := ∀ p, H p = none → Q (.ref p) (upd H p (.lst xs))
def NwT (xs : List V) (H : Hp) (Q : VK) : Prop := ∀ p, H p = none → Q (.ref p) (upd H p (.tup xs))
def NewL (xs : List V) (H : Hp) (Q : VK) : Prop := xs.length ≤ sizeLine ∧ NwL xs H Q
def NewT (xs : List V) (H : Hp) (Q : VK) : Prop := xs.length ≤ sizeLine ∧ NwT xs H Q
section
variable {K : PySem.W.Frag} {σ σ' : L2.St} {H : Hp} {Q : VK} {D' : Ends} {te ta tb tc : TE} {tt tt' : TT} {t u z : TS} {tl : TA} {v x y : V} {i j : Int} {n : Nat} {r r' : R2} {W : List Addr}
theorem h_seq (h : t { D' with nx := u D' } σ H) : tSeq t u D' σ H := h
theorem h_set (h : te σ H fun x H1 => u D' (σ.set n (some x)) H1) : tSeq (tAsg te (gName n)) u D' σ H := h
theorem h_set1 (h : te σ H fun x H1 => D'.nx (σ.set n (some x)) H1) : tAsg te (gName n) D' σ H := h
theorem h_nrm {T : L2.St → Hp → Prop} (h : T σ' H) (e : σ' = σ := by rfl) : T σ H := e ▸ h
theorem h_drop (h : te σ H fun _ H1 => D'.nx σ H1) : tDrop te D' σ H := h
theorem h_ret (h : te σ H D'.rt) : tRet te D' σ H := h
theorem h_if {c : TT} (h : c σ H fun b H1 => if b = true then t D' σ H1 else u D' σ H1) : tIfS c t u D' σ H := h
theorem h_next (h : D'.nx σ H) : tNext D' σ H := h
theorem h_nx {a c d : L2.St → Hp → Prop} {b : VK} (h : a σ H) : (Ends.mk a b c d).nx σ H := h
theorem h_var (e : σ[n]? = some (some v)) (h : Q v H) : tVar n σ H Q := ⟨v, e, h⟩
theorem h_c (h : Q v H) : tC v σ H Q := h
theorem h_op (h : ta σ H fun x H1 => tb σ H1 fun y H2 => r x y H2 Q) : tOp r ta tb σ H Q := h
theorem h_I0 {g : Int → Int → V} (h : Q (g i j) H) : rI0 g (.int i) (.int j) H Q := ⟨i, j, rfl, rfl, h⟩
theorem h_I {C : Int → Int → Prop} {g : Int → Int → V} (c : C i j) (h : Q (g i j) H) : rI C g (.int i) (.int j) H Q := ⟨i, j, rfl, rfl, c, h⟩
theorem h_un {f : V → Hp → VK → Prop} (h : ta σ H fun x H1 => f x H1 Q) : tUn f ta σ H Q := h
theorem h_U {g : Int → V} (h : Q (g i) H) : rU g (.int i) H Q := ⟨i, rfl, h⟩
theorem h_eq (s : scal x y = true) (h : Q (.bl (decide (x = y))) H) : rEq x y H Q := ⟨s, h⟩
theorem h_ne (s : scal x y = true) (h : Q (.bl (!decide (x = y))) H) : rNe x y H Q := ⟨s, h⟩
theorem dec_i : decide (V.int i = V.int j) = decide (i = j) := by simp
theorem dec_b {i j : Bool} : decide (V.bl i = V.bl j) = decide (i = j) := by simp
theorem dec_s {i j : Str} : decide (V.str i = V.str j) = decide (i = j) := by simp
theorem h_eqI (h : Q (.bl (decide (i = j))) H) : rEq (.int i) (.int j) H Q := ⟨rfl, by rw [dec_i]; exact h⟩
theorem h_neI (h : Q (.bl (!decide (i = j))) H) : rNe (.int i) (.int j) H Q := ⟨rfl, by rw [dec_i]; exact h⟩
theorem h_eqS {i j : Str} (h : Q (.bl (decide (i = j))) H) : rEq (.str i) (.str j) H Q := ⟨rfl, by rw [dec_s]; exact h⟩
theorem h_neS {i j : Str} (h : Q (.bl (!decide (i = j))) H) : rNe (.str i) (.str j) H Q := ⟨rfl, by rw [dec_s]; exact h⟩
theorem h_eqB {i j : Bool} (h : Q (.bl (decide (i = j))) H) : rEq (.bl i) (.bl j) H Q := ⟨rfl, by rw [dec_b]; exact h⟩
theorem h_neB {i j : Bool} (h : Q (.bl (!decide (i = j))) H) : rNe (.bl i) (.bl j) H Q := ⟨rfl, by rw [dec_b]; exact h⟩
theorem h_chain (h : ta σ H fun x H1 => tb σ H1 fun y H2 => r x y H2 fun z H3 => ∃ k, z = .bl k ∧ (if k = true then tc σ H3 fun w' H4 => r' y w' H4 Q else Q (.bl false) H3)) : tChain r r' ta tb tc σ H Q := h
theorem h_chk {k : Bool} {A : Prop} {w : V} {f : Bool → Prop} (hw : w = .bl k) (h : f k) : ∃ k, w = .bl k ∧ f k := ⟨k, hw, h⟩
theorem h_and (h : ta σ H fun x H1 => ∃ c, x = .bl c ∧ if c = true then tb σ H1 Q else Q (.bl false) H1) : tAndV ta tb σ H Q := h
theorem h_or (h : ta σ H fun x H1 => ∃ c, x = .bl c ∧ if c = true then Q (.bl true) H1 else tb σ H1 Q) : tOrV ta tb σ H Q := h
theorem h_not (h : ta σ H fun x H1 => ∃ c, x = .bl c ∧ Q (.bl (!c)) H1) : tNotV ta σ H Q := h
theorem h_tand {Q : Bool → Hp → Prop} (h : tt σ H fun c H1 => if c = true then tt' σ H1 Q else Q false H1) : tAnd tt tt' σ H Q := h
theorem h_tor {Q : Bool → Hp → Prop} (h : tt σ H fun c H1 => if c = true then Q true H1 else tt' σ H1 Q) : tOr tt tt' σ H Q := h
theorem h_tnot {Q : Bool → Hp → Prop} (h : tt σ H fun c H1 => Q (!c) H1) : tNot tt σ H Q := h
theorem h_test {Q : Bool → Hp → Prop} (h : te σ H fun x H' => ∃ k, x = .bl k ∧ Q k H') : tTest te σ H Q := h
theorem h_tB {Q : Bool → Hp → Prop} (h : te σ H fun x H' => ∃ k, x = .bl k ∧ Q k H') : tB te σ H Q := h
theorem h_bl {b : Bool} {f : Bool → Prop} (h : f b) : ∃ k, V.bl b = .bl k ∧ f k := ⟨b, rfl, h⟩
theorem h_iteT {A B : Prop} (h : A) : if true = true then A else B := by rw [if_pos rfl]; exact h
theorem h_iteF {A B : Prop} (h : B) : if false = true then A else B := by rw [if_neg Bool.false_ne_true]; exact h
theorem h_ite {b : Bool} {A B : Prop} (h1 : b = true → A) (h2 : b = false → B) : if b = true then A else B := by
  cases b
  · exact h_iteF (h2 rfl)
  · exact h_iteT (h1 rfl)
theorem h_ifE {c : TT} (h : c σ H fun b H1 => if b = true then ta σ H1 Q else tb σ H1 Q) : tIf c ta tb σ H Q := h
theorem h_nil {Q : List V → Hp → Prop} (h : Q [] H) : tNil σ H Q := h
theorem h_cons {Q : List V → Hp → Prop} (h : te σ H fun x H1 => tl σ H1 fun xs H2 => Q (x :: xs) H2) : tCons te tl σ H Q := h
theorem h_cb {f : List V → Hp → VK → Prop} (h : tl σ H fun vs H1 => f vs H1 Q) : tCB f tl σ H Q := h
theorem h_call {sp : Sp} {dvs : List V} {E : XK} (h : tl σ H fun vs H1 => sp (vs ++ dvs) H1 Q E) : tCall sp dvs E tl σ H Q := h
theorem h_callS {sp : Sp} {E : L2.St → XK} (h : tl σ H fun vs H1 => sp vs H1 Q (E σ)) : tCallS sp E tl σ H Q := h
theorem h_tup (h : tl σ H fun xs H1 => NewT xs H1 Q) : tTup tl σ H Q := h
theorem h_lst (h : tl σ H fun xs H1 => NewL xs H1 Q) : tLst tl σ H Q := h
theorem h_ixL {p : Addr} {xs : List V} (s : SqL K H p xs) (e : atI xs i = some v) (h : Q v H) : rIxL K (.ref p) (.int i) H Q := ⟨p, xs, i, v, rfl, rfl, s, e, h⟩
theorem h_ixT {p : Addr} {xs : List V} (s : SqT K H p xs) (e : atI xs i = some v) (h : Q v H) : rIxT K (.ref p) (.int i) H Q := ⟨p, xs, i, v, rfl, rfl, s, e, h⟩
end

section
variable {K : PySem.W.Frag} {σ : L2.St} {B B1 B' H H1 H' B0 H0 : Hp} {Q : VK} {W W' : List Addr} {p q : Addr} {xs ys : List V} {ds es : List D} {v : V} {d : D} {i j : Int} {te ta tb : TE}
theorem h_newL (w : Ex B H) (r : RepL K B xs ds) (h : ∀ p B' H', Stp [] B H B' H' → Rep K B' (.ref p) (.lst ds) → Q (.ref p) H') (hn : xs.length ≤ sizeLine) : NewL xs H Q :=
  ⟨hn, fun p hp => h p _ _ (Stp.new w hp) (.lst (SqL.of upd_same) (r.mono (Ex.new (w.none hp))))⟩
theorem h_newT (w : Ex B H) (r : RepL K B xs ds) (h : ∀ p B' H', Stp [] B H B' H' → Rep K B' (.ref p) (.tup ds) → Q (.ref p) H') (hn : xs.length ≤ sizeLine) : NewT xs H Q :=
  ⟨hn, fun p hp => h p _ _ (Stp.new w hp) (.tup (SqT.of upd_same) (r.mono (Ex.new (w.none hp))))⟩
theorem h_newM (w : Ex B H) (r : RepL K B xs ds) (h : ∀ p H', H p = none → Stp [] B H B H' → Mu K B H' p ds → Q (.ref p) H') (hn : xs.length ≤ sizeLine) : NewL xs H Q :=
  ⟨hn, fun p hp => h p _ hp (Stp.newM w hp) (Mu.new w hp r)⟩
theorem h_nwL (w : Ex B H) (r : RepL K B xs ds) (h : ∀ p B' H', Stp [] B H B' H' → Rep K B' (.ref p) (.lst ds) → Q (.ref p) H') : NwL xs H Q :=
  fun p hp => h p _ _ (Stp.new w hp) (.lst (SqL.of upd_same) (r.mono (Ex.new (w.none hp))))
theorem h_nwT (w : Ex B H) (r : RepL K B xs ds) (h : ∀ p B' H', Stp [] B H B' H' → Rep K B' (.ref p) (.tup ds) → Q (.ref p) H') : NwT xs H Q :=
  fun p hp => h p _ _ (Stp.new w hp) (.tup (SqT.of upd_same) (r.mono (Ex.new (w.none hp))))
theorem h_nwM (w : Ex B H) (r : RepL K B xs ds) (h : ∀ p H', H p = none → Stp [] B H B H' → Mu K B H' p ds → Q (.ref p) H') : NwL xs H Q :=
  fun p hp => h p _ hp (Stp.newM w hp) (Mu.new w hp r)
/-- what was free now was free at the entry -/
theorem Stp.nn (s : Stp W B0 H0 B H) (h : H p = none) : H0 p = none := by
  cases e : H0 p with
  | none => rfl
  | some o => obtain ⟨u, q⟩ := s.al p o e; rw [h] at q; cases q
/-- a step that writes at an object of our own -/
theorem Stp.own2 (a : Stp W B0 H0 B H) (s : Stp [p] B H B' H') (h0 : H0 p = none) : Stp W B0 H0 B' H' :=
  ⟨a.ex.trans s.ex, s.ok, fun x u hx e => s.fr x u (fun z => by
      rw [List.mem_singleton.mp z, h0] at e; cases e) (a.fr x u hx e), fun x u e => let ⟨u1, e1⟩ := a.al x u e; s.al x u1 e1, fun x u hb e => let ⟨u1, e1⟩ := a.al x u e; s.nw x u1 (a.nw x u hb e) e1⟩
theorem nm0 : p ∉ ([] : List Addr) := fun z => nomatch z
theorem nm1 (h : p ≠ q) : p ∉ [q] := fun z => h (List.mem_singleton.mp z)
theorem sub0 : ∀ x, x ∈ ([] : List Addr) → x ∈ W := fun _ z => nomatch z
/-- a list of our own is kept as it is -/
theorem Mu.keep (m : Mu K B H p ds) : ∃ B', Ex B B' ∧ (∀ q, q ≠ p → B q = none → B' q = none) ∧ (∀ W B0 H0, Stp W B0 H0 B H → Ex B0 H0 → H0 p = none → Stp W B0 H0 B' H) ∧ Rep K B' (.ref p) (.lst ds) := by
  obtain ⟨hb, xs, hp, r⟩ := m
  exact ⟨upd B p (.lst xs), Ex.new hb, fun q n e => by rw [upd_ne n]; exact e, fun W B0 H0 st w0 h0 => Stp.keep w0 st h0 hb hp, .lst (SqL.of upd_same) (r.mono (Ex.new hb))⟩
/-- a step that writes at what may be written and at objects of our own -/
theorem Stp.go (a : Stp W B0 H0 B H) (s : Stp W' B H B' H') (h : ∀ p, p ∈ W' → p ∈ W ∨ H0 p = none) : Stp W B0 H0 B' H' :=
  ⟨a.ex.trans s.ex, s.ok, fun x u hx e => s.fr x u (fun z => by
      rcases h x z with q | q
      · exact hx q
      · rw [q] at e; cases e) (a.fr x u hx e), fun x u e => let ⟨u1, e1⟩ := a.al x u e; s.al x u1 e1, fun x u hb e => let ⟨u1, e1⟩ := a.al x u e; s.nw x u1 (a.nw x u hb e) e1⟩
theorem go0 {F : Addr → Prop} : ∀ x, x ∈ ([] : List Addr) → F x := fun _ z => nomatch z
theorem go1 {F : Addr → Prop} (h : F p) : ∀ x, x ∈ [p] → F x := fun x z => by rw [List.mem_singleton.mp z]; exact h
theorem go2 {F : Addr → Prop} (h : F p) (h' : F q) : ∀ x, x ∈ [p, q] → F x := fun x z => by
  rcases List.mem_cons.mp z with e | e
  · rw [e]; exact h
  · rw [List.mem_singleton.mp e]; exact h'
theorem go3 {F : Addr → Prop} {r : Addr} (h : F p) (h' : F q) (h2 : F r) : ∀ x, x ∈ [p, q, r] → F x := fun x z => by
  rcases List.mem_cons.mp z with e | e
  · rw [e]; exact h
  · exact go2 h' h2 x e
theorem go4 {F : Addr → Prop} {r r2 : Addr} (h : F p) (h' : F q) (h2 : F r) (h3 : F r2) : ∀ x, x ∈ [p, q, r, r2] → F x := fun x z => by
  rcases List.mem_cons.mp z with e | e
  · rw [e]; exact h
  · exact go3 h' h2 h3 x e
theorem nm2 {r : Addr} (h : p ≠ q) (h' : p ≠ r) : p ∉ [q, r] := fun z => by
  rcases List.mem_cons.mp z with e | e
  · exact h e
  · exact h' (List.mem_singleton.mp e)
theorem nm3 {r r2 : Addr} (h : p ≠ q) (h' : p ≠ r) (h2 : p ≠ r2) : p ∉ [q, r, r2] := fun z => by
  rcases List.mem_cons.mp z with e | e
  · exact h e
  · exact nm2 h' h2 e
theorem nm4 {r r2 r3 : Addr} (h : p ≠ q) (h' : p ≠ r) (h2 : p ≠ r2) (h3 : p ≠ r3) : p ∉ [q, r, r2, r3] := fun z => by
  rcases List.mem_cons.mp z with e | e
  · exact h e
  · exact nm3 h' h2 h3 e
theorem Mu.kp (m : Mu K B H q es) (e : Ex B B') (k : ∀ q, q ≠ p → B q = none → B' q = none) (n : q ≠ p) : Mu K B' H q es := by
  obtain ⟨hb, xs, hp, r⟩ := m
  exact ⟨k q n hb, xs, hp, r.mono e⟩
theorem RepL.atE {α : Type} [Enc α] {l : List α} {x : α} (r : RepL K B xs (l.map enc)) (h : atI l i = some x) : ∃ v, atI xs i = some v ∧ Rep K B v (enc x) := by
  refine r.at ?_
  unfold atI at h ⊢
  rw [List.length_map]
  cases e : ixN l.length i with
  | none => rw [e] at h; cases h
  | some k =>
    rw [e] at h
    show (l.map enc)[k]? = _
    rw [List.getElem?_map, show l[k]? = some x from h]
    rfl
theorem h_pow {k : Int} (e : i ^ j.toNat = k) (c : CPow i j) (h : Q (.int k) H) : rI CPow (fun i j => .int (i ^ j.toNat)) (.int i) (.int j) H Q := ⟨i, j, rfl, rfl, c, by show Q (.int (i ^ j.toNat)) H; rw [e]; exact h⟩
instance (i j : Int) : Decidable (CPow i j) := by unfold CPow; infer_instance
instance (i j : Int) : Decidable (CMul i j) := by unfold CMul; infer_instance
instance (i j : Int) : Decidable (CDiv i j) := by unfold CDiv; infer_instance
def absI (i : Int) : Int := if i < 0 then -i else i
def b2z (b : Bool) : Int := if b then 1 else 0
theorem h_isB {a b : Bool} (h : Q (.bl (decide (a = b))) H) : rIsB (.bl a) (.bl b) H Q := ⟨a, b, rfl, rfl, h⟩
theorem h_isnotB {a b : Bool} (h : Q (.bl (!decide (a = b))) H) : rNotB (.bl a) (.bl b) H Q := ⟨a, b, rfl, rfl, h⟩
def rLenY (K : PySem.W.Frag) : List V → Hp → VK → Prop := fun xs H Q => ∃ p ys, xs = [.ref p] ∧ (SqL K H p ys ∨ SqT K H p ys) ∧ Q (.int ys.length) H
def rAbsY : List V → Hp → VK → Prop := fun xs H Q => ∃ i, xs = [.int i] ∧ Q (.int (if i < 0 then -i else i)) H
def rIntY : List V → Hp → VK → Prop := fun xs H Q => (∃ i, xs = [.int i] ∧ Q (.int i) H) ∨ ∃ k, xs = [.bl k] ∧ Q (.int (if k then 1 else 0)) H
def rStrY : List V → Hp → VK → Prop := fun xs H Q => ∃ i, xs = [.int i] ∧ i.natAbs.log2 < 1920 ∧ Q (.str (toString i)) H
def rListY (K : PySem.W.Frag) : List V → Hp → VK → Prop := fun xs H Q => ∃ p ys, xs = [.ref p] ∧ (SqL K H p ys ∨ SqT K H p ys) ∧ ∀ l, H l = none → Q (.ref l) (upd H l (.lst ys))
def rTupY (K : PySem.W.Frag) : List V → Hp → VK → Prop := fun xs H Q => ∃ p ys, xs = [.ref p] ∧ ((SqL K H p ys ∧ ∀ l, H l = none → Q (.ref l) (upd H l (.tup ys))) ∨ (SqT K H p ys ∧ Q (.ref p) H))
theorem cr_len {X : Cx} : CallR X (.builtin "len") (rLenY X.K) := call_len_seq
theorem cr_abs {X : Cx} : CallR X (.builtin "abs") rAbsY := call_abs
theorem cr_int {X : Cx} : CallR X (.type "int") rIntY := call_int1
theorem cr_str {X : Cx} : CallR X (.type "str") rStrY := call_str_int
theorem cr_list {X : Cx} : CallR X (.type "list") (rListY X.K) := call_list_of
theorem cr_tuple {X : Cx} : CallR X (.type "tuple") (rTupY X.K) := call_tuple_of
theorem h_len {α : Type} [Enc α] {l : List α} (s : SqL K H p xs) (r : RepL K B xs (l.map enc)) (h : Q (.int l.length) H) : rLenY K [V.ref p] H Q := by
  refine ⟨p, xs, rfl, .inl s, ?_⟩
  rw [show xs.length = l.length from by rw [r.length, List.length_map]]
  exact h
theorem h_lenT (s : SqT K H p xs) (r : RepL K B xs ds) (h : Q (.int ds.length) H) : rLenY K [V.ref p] H Q := by
  refine ⟨p, xs, rfl, .inr s, ?_⟩
  rw [r.length]
  exact h
theorem h_abs (h : Q (.int (absI i)) H) : rAbsY [V.int i] H Q := ⟨i, rfl, h⟩
theorem h_intB {b : Bool} (h : Q (.int (b2z b)) H) : rIntY [V.bl b] H Q := .inr ⟨b, rfl, h⟩
theorem h_intI (h : Q (.int i) H) : rIntY [V.int i] H Q := .inl ⟨i, rfl, h⟩
theorem h_str (c : i.natAbs.log2 < 1920) (h : Q (.str (toString i)) H) : rStrY [V.int i] H Q := ⟨i, rfl, c, h⟩
theorem h_listL (s : SqL K H p xs) (h : NwL xs H Q) : rListY K [V.ref p] H Q := ⟨p, xs, rfl, .inl s, h⟩
theorem h_listT (s : SqT K H p xs) (h : NwL xs H Q) : rListY K [V.ref p] H Q := ⟨p, xs, rfl, .inr s, h⟩
theorem h_tupL (s : SqL K H p xs) (h : NwT xs H Q) : rTupY K [V.ref p] H Q := ⟨p, xs, rfl, .inl ⟨s, h⟩⟩
theorem h_iteN {b : Bool} {A C : Prop} (h1 : b = false → A) (h2 : b = true → C) : if (!b) = true then A else C := by
  cases b
  · exact h_iteT (h1 rfl)
  · exact h_iteF (h2 rfl)
theorem h_iteNT {A C : Prop} (h : C) : if (!true) = true then A else C := h_iteF h
theorem h_iteNF {A C : Prop} (h : A) : if (!false) = true then A else C := h_iteT h
theorem Post.iteTn {α : Type} {m m' : Res α} {P : α → Prop} {R : Err → Prop} {c : Bool} (h : Post (if (!c) = true then m else m') P R) (hc : c = false) : Post m P R := by
  rw [hc] at h; exact h
theorem Post.iteFn {α : Type} {m m' : Res α} {P : α → Prop} {R : Err → Prop} {c : Bool} (h : Post (if (!c) = true then m else m') P R) (hc : c = true) : Post m' P R := by
  rw [hc] at h; exact h
end

/-! ### joins, loops, comprehensions, in step with the mirror -/
section
variable {K : PySem.W.Frag} {σ : L2.St} {B B1 B' H H1 H' B0 H0 : Hp} {Q : VK} {W W' : List Addr} {p q : Addr} {xs ys : List V} {ds es : List D} {v : V} {d : D} {t z tb : TS} {te : TE} {c tt : TT} {D' : Ends} {g : TG} {ti : TI}
variable {α β S R' : Type} {P : β → Prop} {R : Err → Prop}
theorem h_joinS {m : Res α} {k : α → Res β} (hP : Post (m.bind k) P R) (J : α → L2.St → Hp → Prop)
    (h1 : ∀ N : L2.St → Hp → Prop, (∀ a σ' H', J a σ' H' → Post (k a) P R → N σ' H') → Post m (fun a => Post (k a) P R) R → t { D' with nx := N } σ H)
    (h2 : ∀ a σ' H', J a σ' H' → Post (k a) P R → z D' σ' H') : tSeq t z D' σ H := h1 _ h2 hP.bind
theorem h_condJ {m : Res Bool} {k : Bool → Res β} {Qb : Bool → Hp → Prop} (hP : Post (m.bind k) P R) (J : Hp → Prop)
    (h1 : ∀ N : Bool → Hp → Prop, (∀ b H', J H' → Post (k b) P R → N b H') → Post m (fun b => Post (k b) P R) R → c σ H N)
    (h2 : ∀ b H', J H' → Post (k b) P R → Qb b H') : c σ H Qb := h1 _ h2 hP.bind
theorem h_exprJ {m : Res α} {k : α → Res β} (hP : Post (m.bind k) P R) (J : α → V → Hp → Prop)
    (h1 : ∀ N : VK, (∀ a v H', J a v H' → Post (k a) P R → N v H') → Post m (fun a => Post (k a) P R) R → te σ H N)
    (h2 : ∀ a v H', J a v H' → Post (k a) P R → Q v H') : te σ H Q := h1 _ h2 hP.bind
theorem h_gname {n : Nat} {Q : L2.St → Hp → Prop} (h : Q (σ.set n (some v)) H) : gName n v σ H Q := h
/-- behind a loop -/
def afterR (k : S → Res β) : Fl S β → Res β
  | .nx s => k s | .rt r => .ok r | .bk s => k s
/-- a join of ways of which some end the def (or the turn) -/
theorem h_joinF {m : Res (Fl S β)} {k : S → Res β} (hP : Post (m.bind (afterR k)) P R) (J : S → L2.St → Hp → Prop)
    (h1 : ∀ (N : L2.St → Hp → Prop) (T : Fl S β → Prop), (∀ a σ' H', J a σ' H' → T (.nx a) → N σ' H') → (∀ r, T (.rt r) → P r) → Post m T R → t { D' with nx := N } σ H)
    (h2 : ∀ a σ' H', J a σ' H' → Post (k a) P R → z D' σ' H') : tSeq t z D' σ H :=
  h1 _ (fun a => Post (afterR k a) P R) (fun a σ' H' j q => h2 a σ' H' j q) (fun _ q => (q : Post (.ok _) P R).ok) hP.bind
/-- what a turn hands on -/
def turnR (l : List α) (f : α → S → Res (Fl S R')) (i : Nat) (P : Fl S R' → Prop) (R : Err → Prop) : Fl S R' → Prop
  | .nx s => Post (forR (l.drop i) s f) P R | .rt r => P (.rt r) | .bk s => P (.bk s)
theorem Post.turn {l : List α} {i : Nat} {s : S} {f : α → S → Res (Fl S R')} {P : Fl S R' → Prop} {x : α} (h : Post (forR (l.drop i) s f) P R) (hx : l[i]? = some x) : Post (f x s) (turnR l f (i + 1) P R) R :=
  (Post.forS h hx).mono (fun r q => by cases r <;> exact q) fun _ q => q

theorem h_forE (h : te σ H fun x H1 => tFor (iList K (tC x)) g tb D' σ H1) : tFor (iList K te) g tb D' σ H := h
theorem h_forL [Enc α] {l : List α} {s0 : S} {f : α → S → Res (Fl S β)} {k : S → Res β} (hP : Post ((forR l s0 f).bind (afterR k)) P R) (hs : SqL K H p xs) (hr : RepL K B xs (l.map enc))
    (J : S → L2.St → Hp → Prop) (h0 : J s0 σ H) (hl : ∀ s σ' H', J s σ' H' → SqL K H' p xs)
    (hb : ∀ (N : L2.St → Hp → Prop) (T : Fl S β → Prop) (x : α) v s σ' H', J s σ' H' → Rep K B v (enc x) → (∀ s' σ2 H2, J s' σ2 H2 → T (.nx s') → N σ2 H2) → (∀ r, T (.rt r) → P r) → (∀ s' σ2 H2, J s' σ2 H2 → T (.bk s') → D'.nx σ2 H2) → Post (f x s) T R →
      g v σ' H' fun σ2 H2 => tb { D' with nx := N, ct := N, bk := D'.nx } σ2 H2)
    (hd : ∀ s σ' H', J s σ' H' → Post (k s) P R → D'.nx σ' H') : tFor (iList K (tC (.ref p))) g tb D' σ H := by
  refine ⟨p, rfl, ⟨xs, hs⟩, for_list (K := K) (a := p) (xs := xs) (fun i σ' H' => ∃ s, J s σ' H' ∧ Post (forR (l.drop i) s f) (fun a => Post (afterR k a) P R) R) ⟨s0, h0, hP.bind⟩ (fun i σ' H' _ ⟨s, j, _⟩ => hl s σ' H' j) ?_ ?_⟩
  · rintro i y σ' H' hi ⟨s, j, q⟩
    obtain ⟨x, hx⟩ : ∃ x, l[i]? = some x := by
      have h1 := (List.getElem?_eq_some_iff.mp hi).1
      rw [hr.length, List.length_map] at h1
      exact ⟨l[i], List.getElem?_eq_getElem h1⟩
    obtain ⟨u, hu, ru⟩ := hr.get (i := i) (d := enc x) (by rw [List.getElem?_map, hx]; rfl)
    rw [hi] at hu; cases hu
    exact hb _ _ x y s σ' H' j ru (fun s' σ2 H2 j2 t2 => ⟨s', j2, t2⟩) (fun r t2 => (t2 : Post (.ok r) P R).ok) (fun s' σ2 H2 j2 t2 => hd s' σ2 H2 j2 t2) (q.turn hx)
  · rintro σ' H' ⟨s, j, q⟩
    exact hd s σ' H' j (q.forN (by rw [hr.length, List.length_map]; exact Nat.le_refl _))
theorem h_forTE (h : te σ H fun x H1 => tFor (iTup K (tC x)) g tb D' σ H1) : tFor (iTup K te) g tb D' σ H := h
theorem h_forT [Enc α] {l : List α} {s0 : S} {f : α → S → Res (Fl S β)} {k : S → Res β} (hP : Post ((forR l s0 f).bind (afterR k)) P R) (hs : SqT K H p xs) (hr : RepL K B xs (l.map enc))
    (J : S → L2.St → Hp → Prop) (h0 : J s0 σ H) (hl : ∀ s σ' H', J s σ' H' → SqT K H' p xs)
    (hb : ∀ (N : L2.St → Hp → Prop) (T : Fl S β → Prop) (x : α) v s σ' H', J s σ' H' → Rep K B v (enc x) → (∀ s' σ2 H2, J s' σ2 H2 → T (.nx s') → N σ2 H2) → (∀ r, T (.rt r) → P r) → (∀ s' σ2 H2, J s' σ2 H2 → T (.bk s') → D'.nx σ2 H2) → Post (f x s) T R →
      g v σ' H' fun σ2 H2 => tb { D' with nx := N, ct := N, bk := D'.nx } σ2 H2)
    (hd : ∀ s σ' H', J s σ' H' → Post (k s) P R → D'.nx σ' H') : tFor (iTup K (tC (.ref p))) g tb D' σ H := by
  refine ⟨p, rfl, ⟨xs, hs⟩, for_tup (K := K) (a := p) (xs := xs) (fun i σ' H' => ∃ s, J s σ' H' ∧ Post (forR (l.drop i) s f) (fun a => Post (afterR k a) P R) R) ⟨s0, h0, hP.bind⟩ (fun i σ' H' _ ⟨s, j, _⟩ => hl s σ' H' j) ?_ ?_⟩
  · rintro i y σ' H' hi ⟨s, j, q⟩
    obtain ⟨x, hx⟩ : ∃ x, l[i]? = some x := by
      have h1 := (List.getElem?_eq_some_iff.mp hi).1
      rw [hr.length, List.length_map] at h1
      exact ⟨l[i], List.getElem?_eq_getElem h1⟩
    obtain ⟨u, hu, ru⟩ := hr.get (i := i) (d := enc x) (by rw [List.getElem?_map, hx]; rfl)
    rw [hi] at hu; cases hu
    exact hb _ _ x y s σ' H' j ru (fun s' σ2 H2 j2 t2 => ⟨s', j2, t2⟩) (fun r t2 => (t2 : Post (.ok r) P R).ok) (fun s' σ2 H2 j2 t2 => hd s' σ2 H2 j2 t2) (q.turn hx)
  · rintro σ' H' ⟨s, j, q⟩
    exact hd s σ' H' j (q.forN (by rw [hr.length, List.length_map]; exact Nat.le_refl _))
/-- the ints from lo on, below hi -/
def rngI (lo hi : Int) : List Int := (List.range (hi - lo).toNat).map fun (i : Nat) => lo + (i : Int)
theorem rngI_get {lo hi : Int} {i : Nat} (h : i < (hi - lo).toNat) : (rngI lo hi)[i]? = some (lo + (i : Int)) := by
  unfold rngI
  rw [List.getElem?_map, List.getElem?_range h]
  rfl
theorem rngI_len {lo hi : Int} : (rngI lo hi).length = (hi - lo).toNat := by
  unfold rngI
  rw [List.length_map, List.length_range]
def Rng1 (vs : List V) (g : TG) (tb : TS) (D' : Ends) (σ : L2.St) (H : Hp) : Prop := tFor (iRng1 (fun _ H Q => Q vs H)) g tb D' σ H
def Rng2 (vs : List V) (g : TG) (tb : TS) (D' : Ends) (σ : L2.St) (H : Hp) : Prop := tFor (iRng2 (fun _ H Q => Q vs H)) g tb D' σ H
theorem h_rng1 {ta : TA} (h : ta σ H fun vs H1 => Rng1 vs g tb D' σ H1) : tFor (iRng1 ta) g tb D' σ H := h
theorem h_rng2 {ta : TA} (h : ta σ H fun vs H1 => Rng2 vs g tb D' σ H1) : tFor (iRng2 ta) g tb D' σ H := h
theorem forRng {lo hi : Int} {s0 : S} {f : Int → S → Res (Fl S β)} {k : S → Res β} (hP : Post ((forR (rngI lo hi) s0 f).bind (afterR k)) P R)
    (J : S → L2.St → Hp → Prop) (h0 : J s0 σ H)
    (hb : ∀ (N : L2.St → Hp → Prop) (T : Fl S β → Prop) (x : Int) s σ' H', J s σ' H' → lo ≤ x → x < hi → (∀ s' σ2 H2, J s' σ2 H2 → T (.nx s') → N σ2 H2) → (∀ r, T (.rt r) → P r) → (∀ s' σ2 H2, J s' σ2 H2 → T (.bk s') → D'.nx σ2 H2) → Post (f x s) T R →
      g (.int x) σ' H' fun σ2 H2 => tb { D' with nx := N, ct := N, bk := D'.nx } σ2 H2)
    (hd : ∀ s σ' H', J s σ' H' → Post (k s) P R → D'.nx σ' H') :
    ∃ W : Nat → Nat → L2.St → Hp → Prop, (∃ m, W 0 m σ H) ∧ ∀ i m σ H, W i m σ H →
      ((Itr lo (hi - lo).toNat).stop i H ∧ D'.nx σ H) ∨ ((Itr lo (hi - lo).toNat).go i H ∧ ∃ N : L2.St → Hp → Prop, (∀ σ' H', N σ' H' → ∃ m', m' < m ∧ W (i + 1) m' σ' H') ∧ ∀ x H', (Itr lo (hi - lo).toNat).yld i H x H' → g x σ H' fun σ2 H2 => tb { D' with nx := N, ct := N, bk := D'.nx } σ2 H2) := by
  refine for_range (lo := lo) (n := (hi - lo).toNat) (fun i σ' H' => ∃ s, J s σ' H' ∧ Post (forR ((rngI lo hi).drop i) s f) (fun a => Post (afterR k a) P R) R) ⟨s0, h0, hP.bind⟩ ?_ ?_
  · rintro i σ' H' hi' ⟨s, j, q⟩
    exact hb _ _ (lo + (i : Int)) s σ' H' j (by omega) (by omega) (fun s' σ2 H2 j2 t2 => ⟨s', j2, t2⟩) (fun r t2 => (t2 : Post (.ok r) P R).ok) (fun s' σ2 H2 j2 t2 => hd s' σ2 H2 j2 t2) (q.turn (rngI_get hi'))
  · rintro σ' H' ⟨s, j, q⟩
    exact hd s σ' H' j (q.forN (by rw [rngI_len]; exact Nat.le_refl _))
theorem h_forR1 {hi : Int} {s0 : S} {f : Int → S → Res (Fl S β)} {k : S → Res β} (hP : Post ((forR (rngI 0 hi) s0 f).bind (afterR k)) P R) (hz : -(2 ^ 62) ≤ hi ∧ hi < 2 ^ 62)
    (J : S → L2.St → Hp → Prop) (h0 : J s0 σ H)
    (hb : ∀ (N : L2.St → Hp → Prop) (T : Fl S β → Prop) (x : Int) s σ' H', J s σ' H' → 0 ≤ x → x < hi → (∀ s' σ2 H2, J s' σ2 H2 → T (.nx s') → N σ2 H2) → (∀ r, T (.rt r) → P r) → (∀ s' σ2 H2, J s' σ2 H2 → T (.bk s') → D'.nx σ2 H2) → Post (f x s) T R →
      g (.int x) σ' H' fun σ2 H2 => tb { D' with nx := N, ct := N, bk := D'.nx } σ2 H2)
    (hd : ∀ s σ' H', J s σ' H' → Post (k s) P R → D'.nx σ' H') : Rng1 [.int hi] g tb D' σ H := by
  have q := forRng hP J h0 hb hd
  rw [Int.sub_zero] at q
  exact ⟨hi, rfl, hz.1, hz.2, q⟩
theorem h_forR2 {lo hi : Int} {s0 : S} {f : Int → S → Res (Fl S β)} {k : S → Res β} (hP : Post ((forR (rngI lo hi) s0 f).bind (afterR k)) P R) (hz : (-(2 ^ 62) ≤ lo ∧ lo < 2 ^ 62) ∧ -(2 ^ 62) ≤ hi ∧ hi < 2 ^ 62)
    (J : S → L2.St → Hp → Prop) (h0 : J s0 σ H)
    (hb : ∀ (N : L2.St → Hp → Prop) (T : Fl S β → Prop) (x : Int) s σ' H', J s σ' H' → lo ≤ x → x < hi → (∀ s' σ2 H2, J s' σ2 H2 → T (.nx s') → N σ2 H2) → (∀ r, T (.rt r) → P r) → (∀ s' σ2 H2, J s' σ2 H2 → T (.bk s') → D'.nx σ2 H2) → Post (f x s) T R →
      g (.int x) σ' H' fun σ2 H2 => tb { D' with nx := N, ct := N, bk := D'.nx } σ2 H2)
    (hd : ∀ s σ' H', J s σ' H' → Post (k s) P R → D'.nx σ' H') : Rng2 [.int lo, .int hi] g tb D' σ H :=
  ⟨lo, hi, rfl, ⟨hz.1.1, hz.1.2, hz.2.1, hz.2.2⟩, forRng hP J h0 hb hd⟩

/-! comprehensions -/
def compL : List α → S → (α → S → Res (Option R' × S)) → Res (List R' × S)
  | [], s, _ => .ok ([], s)
  | x :: xs, s, f => (f x s).bind fun r => (compL xs r.2 f).bind fun q => .ok (match r.1 with | some b => b :: q.1 | none => q.1, q.2)
def compR (l : List α) (s : S) (f : α → S → Res (Option R' × S)) : Res (List R' × S) := guardR (l.length ≤ 1000000) (compL l s f)
def compT (l : List α) (f : α → S → Res (Option R' × S)) (k : List R' × S → Res β) (acc : List R') (P : β → Prop) (R : Err → Prop) : Option R' × S → Prop
  | (some b, s) => Post ((compL l s f).bind fun q => k (acc ++ [b] ++ q.1, q.2)) P R
  | (none, s) => Post ((compL l s f).bind fun q => k (acc ++ q.1, q.2)) P R
theorem Post.compS {l : List α} {i : Nat} {s : S} {f : α → S → Res (Option R' × S)} {k : List R' × S → Res β} {acc : List R'} {x : α} (h : Post ((compL (l.drop i) s f).bind fun q => k (acc ++ q.1, q.2)) P R) (hx : l[i]? = some x) :
    Post (f x s) (compT (l.drop (i + 1)) f k acc P R) R := by
  obtain ⟨hi, e⟩ := List.getElem?_eq_some_iff.mp hx
  rw [List.drop_eq_getElem_cons hi, e] at h
  have h2 := (Post.bind (Post.bind h))
  refine h2.mono (fun r q => ?_) fun _ q => q
  obtain ⟨o, s'⟩ := r
  cases o with
  | some b =>
    show Post ((compL (l.drop (i + 1)) s' f).bind fun q => k (acc ++ [b] ++ q.1, q.2)) P R
    have q1 : Post ((compL (l.drop (i + 1)) s' f).bind fun q => .ok (b :: q.1, q.2)) (fun a => Post (k (acc ++ a.1, a.2)) P R) R := q
    generalize compL (l.drop (i + 1)) s' f = m at q1 ⊢
    cases m with
    | ok a =>
      have q2 : Post (k (acc ++ (b :: a.1), a.2)) P R := q1.ok
      show Post (k (acc ++ [b] ++ a.1, a.2)) P R
      rw [List.append_assoc]
      exact q2
    | err e => exact ⟨q1.h0⟩
    | stuck => exact ⟨q1.h0⟩
  | none =>
    show Post ((compL (l.drop (i + 1)) s' f).bind fun q => k (acc ++ q.1, q.2)) P R
    have q1 : Post ((compL (l.drop (i + 1)) s' f).bind fun q => .ok (q.1, q.2)) (fun a => Post (k (acc ++ a.1, a.2)) P R) R := q
    generalize compL (l.drop (i + 1)) s' f = m at q1 ⊢
    cases m
    · exact q1.ok
    · exact ⟨q1.h0⟩
    · exact ⟨q1.h0⟩
theorem h_app1 [Enc α] {l : List α} {b : α} {y : V} {N : Hp → Prop} (w : Ex B H) (m : Mu K B H p (l.map enc)) (r : Rep K B y (enc b)) (hz : l.length < sizeLine) (h : ∀ H', Stp [p] B H B H' → Mu K B H' p ((l ++ [b]).map enc) → N H') :
    ∃ acc, H p = some (.lst acc) ∧ acc.length < sizeLine ∧ N (upd H p (.lst (acc ++ [y]))) := by
  obtain ⟨hb, xs, hp, hr⟩ := id m
  refine ⟨xs, hp, by rw [hr.length, List.length_map]; exact hz, ?_⟩
  have rl : RepL K B (xs ++ [y]) ((l ++ [b]).map enc) := by
    rw [List.map_append]
    exact hr.append (.cons r .nil)
  obtain ⟨s, m'⟩ := Stp.mut w m rl
  exact h _ s m'
def LcL (K : PySem.W.Frag) (v : V) (g : TG) (tt : TT) (te : TE) (vs : List Nat) (σ : L2.St) (H : Hp) (Q : VK) : Prop := tLc (iList K (tC v)) g tt te vs σ H Q
theorem h_lcE {vs : List Nat} {tl : TE} (h : tl σ H fun x H1 => LcL K x g tt te vs σ H1 Q) : tLc (iList K tl) g tt te vs σ H Q := h
def LcT (σ : L2.St) (vs : List Nat) (tt : TT) (te : TE) (Dl : Addr) (N : Hp → Prop) : L2.St → Hp → Prop := fun σ2 H2 => wipe σ2 vs = wipe σ vs ∧ tt σ2 H2 fun b H3 =>
  if b = true then te σ2 H3 fun y H4 => ∃ acc, H4 Dl = some (.lst acc) ∧ acc.length < sizeLine ∧ N (upd H4 Dl (.lst (acc ++ [y]))) else N H3
def App (Dl : Addr) (N : Hp → Prop) : VK := fun y H4 => ∃ acc, H4 Dl = some (.lst acc) ∧ acc.length < sizeLine ∧ N (upd H4 Dl (.lst (acc ++ [y])))
theorem h_lcT {vs : List Nat} {Dl : Addr} {N : Hp → Prop} {σ2 : L2.St} (e : wipe σ2 vs = wipe σ vs) (h : te σ2 H (App Dl N)) : LcT σ vs tYes te Dl N σ2 H := ⟨e, h⟩
theorem h_lcI {vs : List Nat} {Dl : Addr} {N : Hp → Prop} {σ2 : L2.St} (e : wipe σ2 vs = wipe σ vs) (h : tt σ2 H fun b H3 => if b = true then te σ2 H3 (App Dl N) else N H3) : LcT σ vs tt te Dl N σ2 H := ⟨e, h⟩
theorem h_app [Enc α] {l : List α} {b : α} {y : V} {N : Hp → Prop} (w : Ex B H) (m : Mu K B H p (l.map enc)) (r : Rep K B y (enc b)) (hz : l.length < sizeLine) (h : ∀ H', Stp [p] B H B H' → Mu K B H' p ((l ++ [b]).map enc) → N H') : App p N y H := h_app1 w m r hz h
theorem h_lcL [Enc α] {l : List α} {s0 : S} {f : α → S → Res (Option R' × S)} {k : List R' × S → Res β} {vs : List Nat} (hP : Post ((compR l s0 f).bind k) P R) (hs : SqL K H p xs) (hr : RepL K B xs (l.map enc))
    (J : Addr → List R' → S → Hp → Prop) (h0 : ∀ Dl, H Dl = none → J Dl [] s0 (upd H Dl (.lst []))) (hl : ∀ Dl acc s H', J Dl acc s H' → SqL K H' p xs)
    (hb : ∀ (Dl : Addr) (N : Hp → Prop) (T : Option R' × S → Prop) (x : α) v acc s H', J Dl acc s H' → Rep K B v (enc x) → acc.length < sizeLine → (∀ b s' H2, J Dl (acc ++ [b]) s' H2 → T (some b, s') → N H2) → (∀ s' H2, J Dl acc s' H2 → T (none, s') → N H2) → Post (f x s) T R →
      g v (wipe σ vs) H' (LcT σ vs tt te Dl N))
    (hd : ∀ Dl acc s H', J Dl acc s H' → Post (k (acc, s)) P R → Q (.ref Dl) H') : LcL K (.ref p) g tt te vs σ H Q := by
  refine ⟨p, rfl, ⟨xs, hs⟩, fun Dl hD => ?_⟩
  unfold compR at hP
  have hz : l.length ≤ 1000000 := by
    by_cases c : l.length ≤ 1000000
    · exact c
    · unfold guardR at hP; rw [if_neg c] at hP; exact hP.elim
  unfold guardR at hP
  rw [if_pos hz] at hP
  refine lc_list (K := K) (a := p) (xs := xs) (fun i H' => ∃ acc s, J Dl acc s H' ∧ acc.length ≤ i ∧ Post ((compL (l.drop i) s f).bind fun q => k (acc ++ q.1, q.2)) P R) ⟨[], s0, h0 Dl hD, Nat.le_refl _, hP⟩ (fun i H' _ ⟨acc, s, j, _⟩ => hl Dl acc s H' j) ?_ ?_
  · rintro i y H' hi ⟨acc, s, j, hn, q⟩
    have h1 := (List.getElem?_eq_some_iff.mp hi).1
    rw [hr.length, List.length_map] at h1
    obtain ⟨x, hx⟩ : ∃ x, l[i]? = some x := ⟨l[i], List.getElem?_eq_getElem h1⟩
    obtain ⟨u, hu, ru⟩ := hr.get (i := i) (d := enc x) (by rw [List.getElem?_map, hx]; rfl)
    rw [hi] at hu; cases hu
    exact hb Dl _ _ x y acc s H' j ru (Nat.lt_of_le_of_lt (Nat.le_trans hn (Nat.le_trans (Nat.le_of_lt h1) hz)) (by decide)) (fun b s' H2 j2 t2 => ⟨acc ++ [b], s', j2, by rw [List.length_append]; exact Nat.succ_le_succ hn, t2⟩) (fun s' H2 j2 t2 => ⟨acc, s', j2, Nat.le_succ_of_le hn, t2⟩) (q.compS hx)
  · rintro H' ⟨acc, s, j, _, q⟩
    rw [hr.length, List.length_map, List.drop_eq_nil_of_le (Nat.le_refl _)] at q
    have q2 : Post (k (acc ++ [], s)) P R := q
    rw [List.append_nil] at q2
    exact hd Dl acc s H' j q2
def LcR1 (ws : List V) (g : TG) (tt : TT) (te : TE) (vs : List Nat) (σ : L2.St) (H : Hp) (Q : VK) : Prop := tLc (iRng1 (fun _ H Q => Q ws H)) g tt te vs σ H Q
theorem h_lcR1E {vs : List Nat} {ta : TA} (h : ta σ H fun ws H1 => LcR1 ws g tt te vs σ H1 Q) : tLc (iRng1 ta) g tt te vs σ H Q := h
theorem h_lcR1 {hi : Int} {s0 : S} {f : Int → S → Res (Option R' × S)} {k : List R' × S → Res β} {vs : List Nat} (hP : Post ((compR (rngI 0 hi) s0 f).bind k) P R)
    (J : Addr → List R' → S → Hp → Prop) (h0 : ∀ Dl, H Dl = none → J Dl [] s0 (upd H Dl (.lst [])))
    (hb : ∀ (Dl : Addr) (N : Hp → Prop) (T : Option R' × S → Prop) (x : Int) acc s H', J Dl acc s H' → 0 ≤ x → x < hi → acc.length < sizeLine → (∀ b s' H2, J Dl (acc ++ [b]) s' H2 → T (some b, s') → N H2) → (∀ s' H2, J Dl acc s' H2 → T (none, s') → N H2) → Post (f x s) T R →
      g (.int x) (wipe σ vs) H' (LcT σ vs tt te Dl N))
    (hd : ∀ Dl acc s H', J Dl acc s H' → Post (k (acc, s)) P R → Q (.ref Dl) H') (hlo : -(2 ^ 62) ≤ hi) : LcR1 [.int hi] g tt te vs σ H Q := by
  unfold compR at hP
  have hz : (rngI 0 hi).length ≤ 1000000 := by
    by_cases c : (rngI 0 hi).length ≤ 1000000
    · exact c
    · unfold guardR at hP; rw [if_neg c] at hP; exact hP.elim
  unfold guardR at hP
  rw [if_pos hz] at hP
  rw [rngI_len, Int.sub_zero] at hz
  refine ⟨hi, rfl, hlo, by omega, fun Dl hD => ?_⟩
  refine lc_range (lo := 0) (n := hi.toNat) (fun i H' => ∃ acc s, J Dl acc s H' ∧ acc.length ≤ i ∧ Post ((compL ((rngI 0 hi).drop i) s f).bind fun q => k (acc ++ q.1, q.2)) P R) ⟨[], s0, h0 Dl hD, Nat.le_refl _, hP⟩ ?_ ?_
  · rintro i H' hi' ⟨acc, s, j, hn, q⟩
    have hx := rngI_get (lo := 0) (hi := hi) (i := i) (by omega)
    have e : (0 : Int) + (i : Int) = (i : Int) := Int.zero_add _
    exact hb Dl _ _ (0 + (i : Int)) acc s H' j (by omega) (by omega) (Nat.lt_of_le_of_lt (Nat.le_trans hn (Nat.le_trans (Nat.le_of_lt hi') hz)) (by decide)) (fun b s' H2 j2 t2 => ⟨acc ++ [b], s', j2, by rw [List.length_append]; exact Nat.succ_le_succ hn, t2⟩) (fun s' H2 j2 t2 => ⟨acc, s', j2, Nat.le_succ_of_le hn, t2⟩) (q.compS hx)
  · rintro H' ⟨acc, s, j, _, q⟩
    rw [List.drop_eq_nil_of_le (by rw [rngI_len]; omega)] at q
    have q2 : Post (k (acc ++ [], s)) P R := q
    rw [List.append_nil] at q2
    exact hd Dl acc s H' j q2
end

section
variable {K : PySem.W.Frag} {B B' H H' B0 H0 : Hp} {W : List Addr} {p : Addr} {xs : List V} {ds : List D} {v : V} {a b c d : L2.St → Hp → Prop} {rt : VK} {σ : L2.St}
theorem Rep.sqB (r : Rep K B v (.lst ds)) : ∃ p xs, v = .ref p ∧ SqL K B p xs ∧ RepL K B xs ds := by
  cases r with
  | @lst p xs _ hp r => exact ⟨p, xs, rfl, hp, r⟩
theorem Rep.stB (r : Rep K B v (.tup ds)) : ∃ p xs, v = .ref p ∧ SqT K B p xs ∧ RepL K B xs ds := by
  cases r with
  | @tup p xs _ hp r => exact ⟨p, xs, rfl, hp, r⟩
theorem Bor.sq0 (m : Bor K B0 H0 W v ds) : ∃ p xs, v = .ref p ∧ RepL K B0 xs ds ∧ ∀ B' H', Stp W B0 H0 B' H' → SqL K H' p xs := by
  obtain ⟨p, xs, e, hp, r⟩ := m
  refine ⟨p, xs, e, r, fun B' H' s => ?_⟩
  rcases hp with ⟨hp | ⟨o, hp⟩, hw⟩ | hp
  · exact .inl (.inl (s.fr p _ hw hp))
  · exact .inl (.inr ⟨o, s.fr p _ hw hp⟩)
  · exact .inr hp
theorem h_ct (h : d σ H) : tCont (Ends.mk a rt b d) σ H := h
theorem h_bk (h : b σ H) : tBreak (Ends.mk a rt b d) σ H := h
end

/-! ### lists that change -/
def setR {α : Type} (l : List α) (i : Int) (x : α) : Res (List α) := match ixN l.length i with | some j => .ok (l.set j x) | none => .stuck
def Bm (K : PySem.W.Frag) (T : String) (r : V → List V → Hp → VK → Prop) (t : TA) (σ : L2.St) (x : V) (H : Hp) (Q : VK) : Prop := tyV K T x H ∧ t σ H fun xs H2 => r x xs H2 Q
def Bm0 (K : PySem.W.Frag) (T : String) (r : V → List V → Hp → VK → Prop) (σ : L2.St) (x : V) (H : Hp) (Q : VK) : Prop := tyV K T x H ∧ r x [] H Q
section
variable {K : PySem.W.Frag} {σ : L2.St} {B H : Hp} {Q : VK} {p q : Addr} {v y : V} {te to ti : TE} {t : TA} {D' : Ends} {z : TS} {i : Int} {r : V → List V → Hp → VK → Prop}
theorem h_bm {T : String} (h : to σ H fun x H1 => Bm K T r t σ x H1 Q) : tBM K T r to t σ H Q := h
theorem h_bm0 {T : String} (h : to σ H fun x H1 => Bm0 K T r σ x H1 Q) : tBM0 K T r to σ H Q := h
theorem Mu.tyV {ds : List D} (m : Mu K B H p ds) : tyV K "list" (.ref p) H := by
  obtain ⟨hb, xs, hp, _⟩ := m
  exact .inl ⟨rfl, _, .inl (.inl hp)⟩
theorem h_bmL {ds : List D} (m : Mu K B H p ds) (h : t σ H fun xs H2 => r (.ref p) xs H2 Q) : Bm K "list" r t σ (.ref p) H Q := ⟨m.tyV, h⟩
theorem h_bmL0 {ds : List D} (m : Mu K B H p ds) (h : r (.ref p) [] H Q) : Bm0 K "list" r σ (.ref p) H Q := ⟨m.tyV, h⟩
theorem h_append {α : Type} [Enc α] {l : List α} {b : α} (w : Ex B H) (m : Mu K B H p (l.map enc)) (ry : Rep K B y (enc b)) (hz : l.length < 1000000) (h : ∀ H', Stp [p] B H B H' → Mu K B H' p ((l ++ [b]).map enc) → Q .non H') : rAppend (.ref p) [y] H Q := by
  obtain ⟨hb, xs, hp, hr⟩ := id m
  refine ⟨p, xs, y, rfl, rfl, hp, by rw [hr.length, List.length_map]; exact Nat.lt_of_lt_of_le hz (by decide), ?_⟩
  have rl : RepL K B (xs ++ [y]) ((l ++ [b]).map enc) := by
    rw [List.map_append]
    exact hr.append (.cons ry .nil)
  obtain ⟨s, m'⟩ := Stp.mut w m rl
  exact h _ s m'
theorem h_extend {α : Type} [Enc α] {l l2 : List α} (w : Ex B H) (m : Mu K B H p (l.map enc)) (m2 : Mu K B H q (l2.map enc)) (hz : l.length + l2.length ≤ 1000000) (h : ∀ H', Stp [p] B H B H' → Mu K B H' p ((l ++ l2).map enc) → Q .non H') : rExtend (.ref p) [.ref q] H Q := by
  obtain ⟨hb, xs, hp, hr⟩ := id m
  obtain ⟨hb2, ys, hp2, hr2⟩ := id m2
  refine ⟨p, q, xs, ys, rfl, rfl, hp, hp2, by rw [hr.length, hr2.length, List.length_map, List.length_map]; exact Nat.le_trans hz (by decide), ?_⟩
  have rl : RepL K B (xs ++ ys) ((l ++ l2).map enc) := by
    rw [List.map_append]
    exact hr.append hr2
  obtain ⟨s, m'⟩ := Stp.mut w m rl
  exact h _ s m'
theorem RepL.set : ∀ {vs : List V} {ds : List D} {j : Nat} {d : D}, RepL K B vs ds → Rep K B v d → RepL K B (vs.set j v) (ds.set j d)
  | _, _, _, _, .nil, _ => .nil
  | _, _, 0, _, .cons _ t, r => .cons r t
  | _, _, j + 1, _, .cons h t, r => .cons h (RepL.set t r)
theorem Post.set {α β : Type} {l : List α} {x : α} {k : List α → Res β} {P : β → Prop} {R : Err → Prop} (h : Post ((setR l i x).bind k) P R) : ∃ j, ixN l.length i = some j ∧ Post (k (l.set j x)) P R := by
  unfold setR at h
  cases e : ixN l.length i with
  | none => rw [e] at h; exact h.elim
  | some j => rw [e] at h; exact ⟨j, rfl, h⟩
def SubS (K : PySem.W.Frag) (to ti : TE) (σ : L2.St) (v : V) (H : Hp) (N : L2.St → Hp → Prop) : Prop := gSub to ti rSetL v σ H N
theorem h_sub {N : L2.St → Hp → Prop} (h : to σ H fun o H1 => ti σ H1 fun i H2 => rSetL o i v H2 fun H3 => N σ H3) : gSub to ti rSetL v σ H N := h
theorem h_asg {g : TG} (h : te σ H fun x H1 => g x σ H1 D'.nx) : tAsg te g D' σ H := h
theorem h_setL {α : Type} [Enc α] {l : List α} {b : α} {N : Hp → Prop} {j : Nat} (w : Ex B H) (m : Mu K B H p (l.map enc)) (ry : Rep K B v (enc b)) (hj : ixN l.length i = some j) (h : ∀ H', Stp [p] B H B H' → Mu K B H' p ((l.set j b).map enc) → N H') : rSetL (.ref p) (.int i) v H N := by
  obtain ⟨hb, xs, hp, hr⟩ := id m
  refine ⟨p, xs, i, j, rfl, rfl, hp, by rw [hr.length, List.length_map]; exact hj, ?_⟩
  have rl : RepL K B (xs.set j v) ((l.set j b).map enc) := by
    rw [List.map_set]
    exact hr.set ry
  obtain ⟨s, m'⟩ := Stp.mut w m rl
  exact h _ s m'
end

/-- a value with a name -/
def lt {α β : Type} (d : α) (k : α → Res β) : Res β := k d
theorem Post.lt {α β : Type} {d : α} {k : α → Res β} {P : β → Prop} {R : Err → Prop} (h : Post (Y.lt d k) P R) : Post (k d) P R := h

/-! ### lists put together, cut, compared; keywords alone -/
def rCatQ (K : PySem.W.Frag) : R2 := fun x y H Q => ∃ a b xs ys, x = .ref a ∧ y = .ref b ∧ SqL K H a xs ∧ SqL K H b ys ∧ xs.length + ys.length ≤ sizeLine ∧ NwL (xs ++ ys) H Q
theorem op_catQ {X : Cx} : OpR X (binaryOp .Add) (rCatQ X.K) := by
  intro pins s σ H x y v u Q I rx ry h
  obtain ⟨a, b, xs, ys, rfl, rfl, ha, hb, hz, q⟩ := h
  cases rx
  cases ry
  obtain ⟨its, r, p1, z1⟩ := I.list ha
  obtain ⟨its2, r2, p2, z2⟩ := I.list hb
  have hl1 := r.length
  have hl2 := r2.length
  obtain ⟨⟨cls, dd, data, sl⟩, ho, hc, n, hd⟩ := p1.isList
  obtain ⟨⟨cls2, dd2, data2, sl2⟩, ho2, hc2, n2, hd2⟩ := p2.isList
  simp only at hc hd hc2 hd2
  subst hc hd hc2 hd2
  have e : its.toArray ++ its2.toArray = (its ++ its2).toArray := by simp
  refine concat_meets ⟨_, ho, rfl⟩ ⟨_, ho2, rfl⟩ noFill_list_add seq_list_add PySem.F.slot_list_add PySem.F.entry_list_add (PySem.F.args_list_add_2 _ _) (list_addW a b its.toArray its2.toArray n n2 dd dd2 sl sl2 (by rw [List.size_toArray, List.size_toArray]; omega)) ⟨ho, ho2, ?_⟩
  rw [e]
  exact ⟨.ref _, _, I.lnew (t' := s.toks) (r.append r2) (by rw [List.length_append]; omega), rfl, q _ I.fresh⟩
def rSlQ (K : PySem.W.Frag) : V → Option Int → Option Int → Hp → VK → Prop := fun x lo hi H Q => ∃ a xs, x = .ref a ∧ SqL K H a xs ∧ NwL (cutV xs lo hi) H Q
theorem sl_Q {X : Cx} : SlR X (rSlQ X.K) := sl_list
/-- l[lo:hi] -/
def cutL {α : Type} (l : List α) (lo hi : Option Int) : List α := (l.drop (HT.sIx l.length 0 lo)).take (HT.sIx l.length l.length hi - HT.sIx l.length 0 lo)
mutual
/-- as the library's data -/
def pyD : D → PyData
  | .non => .none | .bl b => .bool b | .int i => .int i | .str x => .str x | .lst ds => .list (pyDs ds) | .tup ds => .tuple (pyDs ds) | .dic _ => .dict [] | .obj _ _ => .dict []
def pyDs : List D → List PyData
  | [] => []
  | d :: ds => pyD d :: pyDs ds
end
mutual
/-- no dict within -/
def flatD : D → Bool
  | .lst ds => flatDs ds | .tup ds => flatDs ds | .dic _ => false | .obj _ _ => false | _ => true
def flatDs : List D → Bool
  | [] => true
  | d :: ds => flatD d && flatDs ds
end
/-- == of data -/
def eqD (a b : D) : Bool := PyData.eqv (pyD a) (pyD b)
section
variable {K : PySem.W.Frag} {B B' H H' : Hp}
mutual
theorem Rep.dp (w : Ex B H) : ∀ {v : V} {d : D}, Rep K B v d → flatD d = true → Dp K H v (pyD d)
  | _, _, .non, _ => .non
  | _, _, .bl b, _ => .bl b
  | _, _, .int i, _ => .int i
  | _, _, .str x, _ => .str x
  | _, _, .lst h r, f => .lst (w.l h) (RepL.dp w r f)
  | _, _, .tup h r, f => .tup (w.t h) (RepL.dp w r f)
  | _, _, .dic h r, f => nomatch f
  | _, _, .obj h k r, f => nomatch f
theorem RepL.dp (w : Ex B H) : ∀ {vs : List V} {ds : List D}, RepL K B vs ds → flatDs ds = true → DpAll K H vs (pyDs ds)
  | _, _, .nil, _ => .nil
  | _, _, .cons h t, f => by
    have f' : (flatD _ && flatDs _) = true := f
    rw [Bool.and_eq_true] at f'
    exact .cons (Rep.dp w h f'.1) (RepL.dp w t f'.2)
end
variable {σ : L2.St} {Q : VK} {x y v : V} {d e : D} {p q : Addr} {xs ys : List V} {i j k : Int} {tc te ta tb : TE} {lo hi : Option Int} {to tu : TO}
/-- what may be compared by == here -/
def okEq (d e : D) : Prop := flatD d = true ∧ flatD e = true ∧ SeqAt.shaped (pyD d) = true ∧ SeqAt.shaped (pyD e) = true
instance (d e : D) : Decidable (okEq d e) := by unfold okEq; infer_instance
theorem h_eqD (w : Ex B H) (rx : Rep K B x d) (ry : Rep K B y e) (o : okEq d e) (h : Q (.bl (eqD d e)) H) : rEqD K x y H Q := ⟨_, _, rx.dp w o.1, ry.dp w o.2.1, o.2.2.1, o.2.2.2, h⟩
theorem h_neD (w : Ex B H) (rx : Rep K B x d) (ry : Rep K B y e) (o : okEq d e) (h : Q (.bl (!eqD d e)) H) : rNeD K x y H Q := ⟨_, _, rx.dp w o.1, ry.dp w o.2.1, o.2.2.1, o.2.2.2, h⟩
theorem h_cat (s1 : SqL K H p xs) (s2 : SqL K H q ys) (hz : xs.length + ys.length ≤ sizeLine) (h : NwL (xs ++ ys) H Q) : rCatQ K (.ref p) (.ref q) H Q := ⟨p, q, xs, ys, rfl, rfl, s1, s2, hz, h⟩
theorem RepL.cat {α : Type} [Enc α] {l l2 : List α} (r : RepL K B xs (l.map enc)) (r2 : RepL K B ys (l2.map enc)) : RepL K B (xs ++ ys) ((l ++ l2).map enc) := by
  rw [List.map_append]; exact r.append r2
theorem RepL.take : ∀ {vs : List V} {ds : List D} (n : Nat), RepL K B vs ds → RepL K B (vs.take n) (ds.take n)
  | _, _, 0, _ => .nil
  | _, _, _ + 1, .nil => .nil
  | _, _, n + 1, .cons r t => .cons r (RepL.take n t)
theorem RepL.drop : ∀ {vs : List V} {ds : List D} (n : Nat), RepL K B vs ds → RepL K B (vs.drop n) (ds.drop n)
  | _, _, 0, r => r
  | _, _, _ + 1, .nil => .nil
  | _, _, n + 1, .cons _ t => RepL.drop n t
theorem RepL.cut {α : Type} [Enc α] {l : List α} (r : RepL K B xs (l.map enc)) (lo hi : Option Int) : RepL K B (cutV xs lo hi) ((cutL l lo hi).map enc) := by
  unfold cutV cutL
  rw [List.map_take, List.map_drop, r.length, List.length_map]
  exact (r.drop _).take _
theorem h_sl {r : V → Option Int → Option Int → Hp → VK → Prop} (h : te σ H fun x H1 => to σ H1 fun l H2 => tu σ H2 fun u H3 => r x l u H3 Q) : tSl r te to tu σ H Q := h
theorem h_part {N : Option Int → Hp → Prop} (h : te σ H fun x H1 => ∃ i, x = .int i ∧ N (some i) H1) : tPart te σ H N := h
theorem h_isI {f : Int → Prop} (h : f i) : ∃ j, V.int i = .int j ∧ f j := ⟨i, rfl, h⟩
theorem h_nopart {N : Option Int → Hp → Prop} (h : N none H) : tNoPart σ H N := h
theorem h_slQ (s : SqL K H p xs) (h : NwL (cutV xs lo hi) H Q) : rSlQ K (.ref p) lo hi H Q := ⟨p, xs, rfl, s, h⟩
theorem h_ch {g g' : Int → Int → Bool} (hc : ∀ Q : VK, Q (.int k) H → tc σ H Q) (h : Q (.bl (g i j && g' j k)) H) :
    rI0 (fun i j => .bl (g i j)) (.int i) (.int j) H (fun z H3 => ∃ c, z = .bl c ∧ (if c = true then tc σ H3 fun w' H4 => rI0 (fun i j => .bl (g' i j)) (.int j) w' H4 Q else Q (.bl false) H3)) := by
  refine ⟨i, j, rfl, rfl, g i j, rfl, ?_⟩
  cases e : g i j with
  | true =>
    refine h_iteT (hc _ ?_)
    rw [e, Bool.true_and] at h
    exact ⟨j, k, rfl, rfl, h⟩
  | false =>
    rw [e, Bool.false_and] at h
    exact h_iteF h
end
/-- f(k = v, ..) -/
def tCallK0 (sp : Sp) (gV : List V → List V) (E : XK) (tk : TA) : TE := fun σ H Q => tk σ H fun zs H2 => sp (gV zs) H2 Q E
theorem pe_callK0 {X : Cx} {CX : CXT} {k : Nat} {f : Addr} {fd : FuncData} {ps ks : List Str} {sp : Sp} {E : XK} {x : Str} {p pos : Pos} {kws : List Keyword} {tk : TA} {g : List Value → List Value → List Value} {gV : List V → List V → List V}
    (F : FnOk X.prog X.w X.K X.mg X.base CX k f fd ps sp) (hr : Room k X.A) (hg : Gl X x) (hm : X.mg x = some (.ref f)) (hk : PySem.W.keepIn X.K (.ref f) = true) (hb : KBinds X.K fd ps ks g gV) (hx : Passes CX X E)
    (hkw : PK X kws tk) (hall : (backToKw pos (keywordEach kws X.env)).all (·.1.isSome) = true := by rfl) (hks : (backToKw pos (keywordEach kws X.env)).filterMap (·.1) = ks := by rfl)
    (hdb : (x == ("__debug__" : Str)) = false := by decide)
    (hpl : ((backTo pos (starEach [] X.env)).any (·.1) || (backToKw pos (keywordEach kws X.env)).any (·.1.isNone)) = false := by rfl) :
    PE X (.Call (.Name x p) [] kws pos) (tCallK0 sp (gV []) E tk) := by
  refine ⟨fun pins s σ H Q I h => ?_⟩
  refine wpAny_Call_Name_kw (ld_glob I hg hm ?_ hdb)
  refine PySem.W.callWith_KW0 (h₀ := X.base) I.ok.mod.kin hk hall ?_ hpl
  refine thn (hkw.run pos pins s σ H _ I h) fun ws s2 ⟨zs, H2, I2, rz, q2⟩ => ⟨I2.kIn, ?_⟩
  rw [hks]
  exact run_fnk F hr hb hx I2 .nil rz q2
theorem h_callK0 {σ : L2.St} {H : Hp} {Q : VK} {sp : Sp} {gV : List V → List V} {E : XK} {tk : TA} (h : tk σ H fun zs H2 => sp (gV zs) H2 Q E) : tCallK0 sp gV E tk σ H Q := h
theorem h_callK {σ : L2.St} {H : Hp} {Q : VK} {sp : Sp} {gV : List V → List V → List V} {E : XK} {t tk : TA} (h : t σ H fun vs H1 => tk σ H1 fun zs H2 => sp (gV vs zs) H2 Q E) : tCallK sp gV E t tk σ H Q := h
theorem hu64_of {A : Around} {k : Nat} (hr : Room k A) : A.units + 64 < cLine := Nat.lt_of_le_of_lt (Nat.add_le_add_left (by decide : 64 ≤ 64) _) hr.units

/-! ### dicts as data -/
section
variable {K : PySem.W.Frag} {B H : Hp} {σ : L2.St} {Q : VK} {tk tv : TE} {v : V} {d : D} {i : Int} {p : Addr} {xs : List V}
theorem h_disp1I (hk : ∀ (H' : Hp) (Q : VK), Q (.int i) H' → tk σ H' Q) (hv : ∀ (H' : Hp) (Q : VK), Q v H' → tv σ H' Q) (w : Ex B H) (rv : Rep K B v d)
    (h : ∀ p B' H', Stp [] B H B' H' → Rep K B' (.ref p) (.dic [(.inl i, d)]) → Q (.ref p) H') : tDisp [(tk, tv)] σ H Q := fun p hp => by
  show tk σ (upd H p (.dK [])) _
  refine hk _ _ (hv _ _ ⟨upd_same, [(.inl i, v)], rfl, (by show 1 ≤ 15; decide), ?_⟩)
  rw [upd_upd]
  have hb := w.none hp
  exact h p _ _ (Stp.new w hp) (.dic upd_same (.cons (rv.mono (Ex.new hb)) .nil))
theorem h_dnew (w : Ex B H) (h : ∀ p B' H', Stp [] B H B' H' → Rep K B' (.ref p) (.dic []) → Q (.ref p) H') : tDNewK σ H Q := fun p hp => h p _ _ (Stp.new w hp) (.dic upd_same .nil)
def rDictP (K : PySem.W.Frag) : List V → Hp → VK → Prop := fun xs H Q => ∃ (a : Addr) (ps : List Addr) (kvs : List (Key × V)), xs = [.ref a] ∧ SqL K H a (ps.map V.ref) ∧ Paired (fun p kv => SqT K H p [kV kv.1, kv.2]) ps kvs ∧
    ∀ p, H p = none → Q (.ref p) (upd H p (.dK (mergeK [] kvs)))
theorem cr_dict {X : Cx} (hc : X.calm = true) : CallR X (.type "dict") (rDictP X.K) := call_dictP hc
def vD : V → D
  | .int i => .int i | .bl b => .bl b | .str x => .str x | _ => .non
/-- dict(pairs of ints), as data -/
def dictI (l : List (Tp2 Int Int)) : List (Key × D) := (mergeK [] (l.map fun t => ((Sum.inl t.a : Key), V.int t.b))).map fun kv => (kv.1, vD kv.2)
theorem putK_ints {kvs : List (Key × V)} {k : Key} {j : Int} (h : ∀ kv ∈ kvs, ∃ i, kv.2 = V.int i) : ∀ kv ∈ putK kvs k (V.int j), ∃ i, kv.2 = V.int i := by
  intro kv m
  unfold putK at m
  split at m
  · obtain ⟨q, hq, e⟩ := List.mem_map.mp m
    rw [← e]
    split
    · exact ⟨j, rfl⟩
    · exact h q hq
  · rcases List.mem_append.mp m with m | m
    · exact h kv m
    · rw [List.mem_singleton.mp m]; exact ⟨j, rfl⟩
theorem merge_ints : ∀ {l : List (Tp2 Int Int)} {acc : List (Key × V)}, (∀ kv ∈ acc, ∃ i, kv.2 = V.int i) → ∀ kv ∈ mergeK acc (l.map fun t => ((Sum.inl t.a : Key), V.int t.b)), ∃ i, kv.2 = V.int i
  | [], _, h => h
  | t :: r, acc, h => merge_ints (l := r) (putK_ints h)
theorem RepK.ints : ∀ {kvs : List (Key × V)}, (∀ kv ∈ kvs, ∃ i, kv.2 = V.int i) → RepK K B kvs (kvs.map fun kv => (kv.1, vD kv.2))
  | [], _ => .nil
  | (k, v) :: r, h => by
    obtain ⟨i, e⟩ := h (k, v) List.mem_cons_self
    have e' : v = V.int i := e
    subst e'
    exact .cons (.int i) (RepK.ints fun kv m => h kv (List.mem_cons_of_mem _ m))
theorem pairs_D (w : Ex B H) : ∀ {xs : List V} {l : List (Tp2 Int Int)}, RepL K B xs (l.map enc) → ∃ ps : List Addr, xs = ps.map V.ref ∧ Paired (fun p (kv : Key × V) => SqT K H p [kV kv.1, kv.2]) ps (l.map fun t => ((Sum.inl t.a : Key), V.int t.b))
  | [], [], _ => ⟨[], rfl, .nil⟩
  | _ :: _, [], r => nomatch r
  | [], _ :: _, r => nomatch r
  | v :: vs, t :: l, r => by
    cases r with
    | cons h q =>
      obtain ⟨ps, e, pr⟩ := pairs_D w q
      obtain ⟨p, ys, rfl, hs, hr⟩ := Rep.st w (show Rep K B v (.tup [enc t.a, enc t.b]) from h)
      cases hr with
      | cons h1 t1 =>
        cases t1 with
        | cons h2 t2 =>
          cases t2
          cases h1
          cases h2
          exact ⟨p :: ps, by rw [e]; rfl, .cons hs pr⟩
theorem h_dictP {l : List (Tp2 Int Int)} (w : Ex B H) (s : SqL K H p xs) (r : RepL K B xs (l.map enc)) (h : ∀ p B' H', Stp [] B H B' H' → Rep K B' (.ref p) (.dic (dictI l)) → Q (.ref p) H') : rDictP K [.ref p] H Q := by
  obtain ⟨ps, e, pr⟩ := pairs_D w r
  subst e
  exact ⟨p, ps, _, rfl, s, pr, fun q hq => h q _ _ (Stp.new w hq) (.dic upd_same (RepK.ints (merge_ints fun _ m => nomatch m)))⟩
end
theorem RepL.toD {K : PySem.W.Frag} {B : Hp} {α : Type} [Enc α] {xs : List V} {l : List α} (r : RepL K B xs (l.map enc)) : RepL K B xs ((l.map enc : List D).map enc) := by
  have e : (l.map enc : List D).map enc = l.map enc := List.map_id' _
  rw [e]; exact r
/-- a thing that is an int -/
def asI (d : D) : Res Int := match d with | .int i => .ok i | _ => .stuck
theorem Post.asI {β : Type} {d : D} {k : Int → Res β} {P : β → Prop} {R : Err → Prop} (h : Post ((Y.asI d).bind k) P R) : ∃ i, d = .int i ∧ Post (k i) P R := by
  cases d with
  | int i => exact ⟨i, rfl, h⟩
  | _ => exact h.elim
/-- a pair taken apart -/
def un2 {α β γ : Type} (k : α → β → γ) (p : α × β) : γ := k p.1 p.2
theorem Post.un2 {α β γ : Type} {k : α → β → Res γ} {a : α} {b : β} {P : γ → Prop} {R : Err → Prop} (h : Post (Y.un2 k (a, b)) P R) : Post (k a b) P R := h
/-- a thing that is a list | a tuple -/
def asL (d : D) : Res (List D) := match d with | .lst l => .ok l | _ => .stuck
def asT (d : D) : Res (List D) := match d with | .tup l => .ok l | _ => .stuck
theorem enc_Ds (l : List D) : (l.map enc : List D) = l := List.map_id' _
theorem Post.asL {β : Type} {d : D} {k : List D → Res β} {P : β → Prop} {R : Err → Prop} (h : Post ((Y.asL d).bind k) P R) : ∃ l : List D, d = .lst (l.map enc) ∧ Post (k l) P R := by
  cases d with
  | lst l => exact ⟨l, by rw [enc_Ds], h⟩
  | _ => exact h.elim
theorem Post.asT {β : Type} {d : D} {k : List D → Res β} {P : β → Prop} {R : Err → Prop} (h : Post ((Y.asT d).bind k) P R) : ∃ l : List D, d = .tup (l.map enc) ∧ Post (k l) P R := by
  cases d with
  | tup l => exact ⟨l, by rw [enc_Ds], h⟩
  | _ => exact h.elim
section
variable {K : PySem.W.Frag} {B H : Hp} {Q : VK} {p : Addr} {xs : List V}
theorem RepL.bools : ∀ {xs : List V} {bs : List Bool}, RepL K B xs (bs.map enc) → xs = bs.map V.bl
  | [], [], _ => rfl
  | _ :: _, [], r => nomatch r
  | [], _ :: _, r => nomatch r
  | v :: vs, b :: bs, r => by
    cases r with
    | cons h t =>
      cases h
      rw [RepL.bools t]
      rfl
theorem RepL.intsV : ∀ {xs : List V} {bs : List Int}, RepL K B xs (bs.map enc) → xs = bs.map V.int
  | [], [], _ => rfl
  | _ :: _, [], r => nomatch r
  | [], _ :: _, r => nomatch r
  | v :: vs, b :: bs, r => by
    cases r with
    | cons h t =>
      cases h
      rw [RepL.intsV t]
      rfl
theorem h_all {bs : List Bool} (s : SqL K H p xs) (r : RepL K B xs (bs.map enc)) (h : Q (.bl (bs.all id)) H) : rAll K [.ref p] H Q := ⟨p, bs, rfl, by rw [← r.bools]; exact s, h⟩
theorem h_any {bs : List Bool} (s : SqL K H p xs) (r : RepL K B xs (bs.map enc)) (h : Q (.bl (bs.any id)) H) : rAny K [.ref p] H Q := ⟨p, bs, rfl, by rw [← r.bools]; exact s, h⟩
theorem h_sum {ns : List Int} (s : SqL K H p xs) (r : RepL K B xs (ns.map enc)) (h : Q (.int ns.sum) H) : rSum K [.ref p] H Q := ⟨p, ns, rfl, by rw [← r.intsV]; exact s, h⟩
end
/-! ### the top -/
/-- the law's promise -/
def spTop (K : PySem.W.Frag) : Sp := fun vs H Q _ => ∃ (a : Addr) (ns : List Int), vs = [.ref a] ∧ ns.length ≤ 63 ∧ SqL K H a (ns.map V.int) ∧ ∀ H', Q (.bl true) H'
theorem top_of {K : PySem.W.Frag} {m : List Int → Res Bool} (hm : ∀ ns : List Int, ns.length ≤ 63 → m ns = .ok true) {vs : List V} {H : Hp} {Q : VK} {E : XK} (h : spTop K vs H Q E) :
    ∃ (B : Hp) (v : V) (a : List Int), Ex B H ∧ vs = [v] ∧ Bor K B H [] v (a.map enc) ∧ Post (m a) (fun r => Ret K [] B H (enc r) Q) (fun _ => False) := by
  obtain ⟨a, ns, e, hl, hs, k⟩ := h
  refine ⟨H, .ref a, ns, Ex.refl H, e, ⟨a, _, rfl, ?_, RepL.ints ns⟩, ?_⟩
  · rcases hs with hs | hs
    · exact .inl ⟨hs, fun z => nomatch z⟩
    · exact .inr hs
  · rw [hm ns hl]
    refine ⟨fun v B' H' st r => ?_⟩
    cases r
    exact k H'
theorem walk_top {l : PySem.W.OpenLaw} {q : Program} {loose : List Str} {XP : (Str → Option Value) → Heap → Prop} {YP : World → Heap → Prop} {d : DefRec} {K : Params → PySem.W.Frag} {x : Str} {k : Nat} (hn : l.most = some 63) (hdf : d.params.defaults = [])
    (hr : Room k callerA) (hY : ∀ (w : World) (h : Heap), YP w h → (K w.params).In h)
    (F : ∀ (w : World) (mg : Str → Option Value) (fa : Addr) (h : Heap), (K w.params).In h → h.Ns mainGlobals mg → mg d.name = some (.ref fa) →
      ∃ fd : FuncData, (∀ (s : Shared) (u : Value), BindsTo s fd ⟨[u], []⟩ [(x, u)]) ∧ ∀ base : Heap, (K w.params).In base → base.Ns mainGlobals mg → FnOk l.prog w (K w.params) mg base CX0 k fa fd [x] (spTop (K w.params))) :
    PySem.W.WalkO q loose XP YP l.row.toRowW d [] (fun f vs => PySem.call f vs) :=
  L2.walk_of (n := 63) (k := k) (x := x) (CX := fun _ => CX0) (sp := fun w => spTop (K w.params)) hn (by decide) hdf hr hY F (fun _ _ a ns hl _ hS => ⟨a, ns, rfl, hl, hS, fun _ => rfl⟩) fun _ _ _ _ _ z => z
/-- how its arguments bind by keywords -/
theorem _root_.L2.Fun.kb {K : PySem.W.Frag} {x qual : Str} {st : Stmt} {f : Addr} {fd : FuncData} {ps ks : List Str} {g : List Value → List Value → List Value} {gV : List V → List V → List V} (F : Fun K x qual st f fd)
    (h : ∀ (kV doc pm : Value) (an : Option Addr) (cdv ct : Value) (us ws : List Value), (g us ws).length = ps.length → bindArgs (PySem.W.fnOf x qual (defArgs st) (defBody st) (defScope st) .none kV doc pm an cdv ct) ⟨us, ks.zip ws⟩ = pure (ps.zip (g us ws)))
    (r : ∀ {vs : List V} {us : List Value} {zs : List V} {ws : List Value}, Vals vs us → Vals zs ws → Vals (gV vs zs) (g us ws)) : KBinds K fd ps ks g gV := by
  obtain ⟨oc, od, kV, doc, pm, an, cdv, ct, osl, rfl, lk, hcd⟩ := F.ex
  exact ⟨fun s us ws _ hl => .of_eq (h kV doc pm an cdv ct us ws hl), r⟩

/-! ### while -/
def whileR {S R : Type} : Nat → S → (S → Res (Fl S R)) → Res (Fl S R)
  | 0, _, _ => .stuck
  | n + 1, s, g => (g s).bind fun r => match r with | .nx s' => whileR n s' g | r => .ok r
section
variable {K : PySem.W.Frag} {σ : L2.St} {H : Hp} {Q : VK} {tb t : TS} {c : TT} {D' : Ends} {S β : Type} {P : β → Prop} {E : Err → Prop}
theorem h_while {n : Nat} {s0 : S} {f : S → Res (Fl S β)} {k : S → Res β} (hP : Post ((whileR n s0 f).bind (afterR k)) P E) (J : S → L2.St → Hp → Prop) (h0 : J s0 σ H)
    (hb : ∀ (N : L2.St → Hp → Prop) (C : (L2.St → Hp → Prop) → Prop) (T : Fl S β → Prop) s σ' H', J s σ' H' → C N → (∀ s' σ2 H2, J s' σ2 H2 → T (.nx s') → N σ2 H2) → (∀ r, T (.rt r) → P r) → (∀ s' σ2 H2, J s' σ2 H2 → T (.bk s') → D'.nx σ2 H2) → Post (f s) T E →
      c σ' H' fun b H1 => if b = true then ∃ N, C N ∧ tb { D' with nx := N, ct := N, bk := D'.nx } σ' H1 else D'.nx σ' H1)
    (hd : ∀ s σ' H', J s σ' H' → Post (k s) P E → D'.nx σ' H') : tWhile c tb D' σ H := by
  refine ⟨fun m σ' H' => ∃ s, J s σ' H' ∧ Post (whileR m s f) (fun a => Post (afterR k a) P E) E, ⟨n, s0, h0, hP.bind⟩, ?_⟩
  rintro m σ' H' ⟨s, j, q⟩
  cases m with
  | zero => exact Post.elim q
  | succ m =>
    refine hb (fun σ2 H2 => ∃ s', J s' σ2 H2 ∧ Post (whileR m s' f) (fun a => Post (afterR k a) P E) E) (fun N => ∀ σ2 H2, N σ2 H2 → ∃ m', m' < m + 1 ∧ ∃ s, J s σ2 H2 ∧ Post (whileR m' s f) (fun a => Post (afterR k a) P E) E)
      (fun r => match r with | .nx s' => Post (whileR m s' f) (fun a => Post (afterR k a) P E) E | .rt r => Post (.ok r) P E | .bk s' => Post (k s') P E) s σ' H' j (fun σ2 H2 h => ⟨m, Nat.lt_succ_self m, h⟩)
      (fun s' σ2 H2 j2 t2 => ⟨s', j2, t2⟩) (fun r t2 => Post.ok t2) (fun s' σ2 H2 j2 t2 => hd s' σ2 H2 j2 t2) ?_
    refine (Post.bind q).mono (fun r q => ?_) fun _ q => q
    cases r with
    | nx s' => exact q
    | rt r => exact q.ok
    | bk s' => exact q.ok
theorem h_par {i j : Nat} {ta : TA} (h : ta σ H fun vs H1 => ∃ v w, vs = [v, w] ∧ D'.nx ((σ.set i (some v)).set j (some w)) H1) : tPar i j ta D' σ H := h
theorem h_two {N : V → V → Prop} {x y : V} (h : N x y) : ∃ v w, [x, y] = [v, w] ∧ N v w := ⟨x, y, rfl, h⟩

/-! ### errors -/
def tryR {α : Type} (m : Res α) (h : Err → Res α) : Res α := match m with | .ok a => .ok a | .err e => h e | .stuck => .stuck
theorem Post.tr {α : Type} {m : Res α} {h : Err → Res α} {P : α → Prop} {R : Err → Prop} (q : Post (tryR m h) P R) : Post m P (fun e => Post (h e) P R) := by
  obtain ⟨q⟩ := q
  refine ⟨?_⟩
  cases m
  · exact q
  · exact ⟨q⟩
  · exact q
theorem h_tryJ {m : Res (Fl S β)} {h : Err → Res (Fl S β)} {k : S → Res β} (hP : Post ((tryR m h).bind (afterR k)) P E) (J : S → L2.St → Hp → Prop)
    (h1 : ∀ (N : L2.St → Hp → Prop) (T : Fl S β → Prop), (∀ s σ' H', J s σ' H' → T (.nx s) → N σ' H') → (∀ r, T (.rt r) → P r) → Post m T (fun e => Post (h e) T E) → t { D' with nx := N } σ H)
    (h2 : ∀ s σ' H', J s σ' H' → Post (k s) P E → D'.nx σ' H') : t D' σ H := by
  refine h1 _ (fun a => Post (afterR k a) P E) (fun s σ' H' j q => h2 s σ' H' j q) (fun r q => (q : Post (.ok r) P E).ok) ?_
  exact (Post.bind hP).tr
/-- what the written part says of an error's class -/
structure ExcT (K : PySem.W.Frag) (mg : Str → Option Value) (nm : Str) (C : Addr) : Prop where
  g : mg nm = some (.ref C)
  ec : ExcC K C
  ty : PySem.W.typeIn K (.ref C) = some (.type "type")
  kp : PySem.W.keepIn K (.ref C) = true
  ve : PySem.W.subIn K (.ref C) (.type "ValueError") = some true
  is : PySem.W.isClsIn K C = true
  self : PySem.W.subIn K (.ref C) (.ref C) = some true
/-- an error that is raised with a text alone -/
structure ExcR (K : PySem.W.Frag) (mg : Str → Option Value) (nm : Str) (C : Addr) : Prop extends ExcT K mg nm C where
  ex : PySem.W.excIn K C [.type "ValueError", .type "Exception", .type "BaseException", .type "object"] "ValueError.__new__" = true
theorem ExcT.names {X : Cx} {nm : Str} {C : Addr} (T : ExcT X.K X.mg nm C) (hg : Gl X nm) (hd : (nm == ("__debug__" : Str)) = false) : Names X nm (.ref C) := ⟨hg, hd, .inl T.g⟩
theorem ExcT.exm {mg : Str → Option Value} {nm : Str} {C : Addr} (T : ExcT K mg nm C) {cls : Value} {b : Bool} (h : PySem.W.subIn K cls (.ref C) = some b) : PySem.W.exmOne K cls (.ref C) = some b := PySem.W.exm_ref T.ec.hs T.ec.hd T.ty h
theorem ExcT.kit {mg : Str → Option Value} {nm : Str} {C C2 : Addr} (T : ExcT K mg nm C) {b : Bool} (h : PySem.W.subIn K (.ref C2) (.ref C) = some b) : PySem.W.kitOne K (.ref C2) (.ref C) = some b := by
  unfold PySem.W.kitOne
  by_cases e : (Value.ref C2 == Value.ref C) = true
  · rw [if_pos e]
    have e2 : C2 = C := Value.ref.inj (beq_iff_eq.mp e)
    subst e2
    exact T.self.symm.trans h
  · rw [if_neg e]
    have h2 : (PySem.W.clsIn K C).isSome = true := T.is
    show (if ((PySem.W.clsIn K C).isSome && PySem.W.typeIn K (.ref C) == some (.type "type")) = true then PySem.W.subIn K (.ref C2) (.ref C) else none) = some b
    rw [if_pos (by rw [h2, T.ty] <;> rfl)]
    exact h
theorem ExcT.kitVE {mg : Str → Option Value} {nm : Str} {C : Addr} (T : ExcT K mg nm C) : PySem.W.kitOne K (.ref C) (.type "ValueError") = some true := by
  unfold PySem.W.kitOne
  rw [if_neg (by simp)]
  show (if PySem.W.kitMeta "ValueError" = true then PySem.W.subIn K (.ref C) (.type "ValueError") else none) = some true
  rw [if_pos (by decide +kernel)]
  exact T.ve
def tIsE (K : PySem.W.Frag) (a : Addr) (cls : Value) (d : Option Addr) (targs : TA) : TE := fun σ H Q => ∃ Dc, cls = .ref Dc ∧ d = none ∧ ExcC K Dc ∧ tCB (rIsE K Dc a) targs σ H Q
theorem pe_isE {X : Cx} {e : Expr} {a : Addr} {cls : Value} {d : Option Addr} {targs : TA} (hK : X.K = K) (h : ∀ Dc, cls = .ref Dc → d = none → ExcC K Dc → PE X e (tCB (rIsE K Dc a) targs)) : PE X e (tIsE K a cls d targs) :=
  ⟨fun pins s σ H Q I q => by
    obtain ⟨Dc, e1, e2, ec, q⟩ := q
    exact (h Dc e1 e2 ec).run pins s σ H Q I q⟩
theorem h_isE {a C : Addr} {targs : TA} {mg : Str → Option Value} {nm : Str} (T : ExcT K mg nm C) (h : targs σ H fun vs H1 => rIsE K C a vs H1 Q) : tIsE K a (.ref C) none targs σ H Q := ⟨C, rfl, rfl, T.ec, h⟩
theorem h_isER {a C C2 : Addr} {b : Bool} (h : PySem.W.kitOne K (.ref C) (.ref C2) = some b) (q : Q (.bl b) H) : rIsE K C a [.ref a, .ref C2] H Q := ⟨.ref C2, .ref C2, b, rfl, fun _ r => r, h, q⟩
theorem h_isEB {a C : Addr} {n : String} {b : Bool} (h : PySem.W.kitOne K (.ref C) (.type n) = some b) (q : Q (.bl b) H) : rIsE K C a [.ref a, .ty n] H Q := ⟨.ty n, .type n, b, rfl, fun _ r => r, h, q⟩
/-- the clause of a try meets the error -/
theorem h_wAs {C S' : Addr} {i : Nat} {ts : Addr → Value → Option Addr → TS} {Wout : WX} {mg : Str → Option Value} {nm : Str} (T : ExcT K mg nm S') (hs : PySem.W.subIn K (.ref C) (.ref S') = some true)
    (h : ∀ a, H a = none → ts a (.ref C) none { nx := fun σ' H' => D'.nx (σ'.set i none) H', rt := D'.rt, bk := fun σ' H' => D'.bk (σ'.set i none) H', ct := fun σ' H' => D'.ct (σ'.set i none) H' } (σ.set i (some (.ref a))) H) :
    wAs K (.ref S') i ts Wout D' (.ref C) none σ H := ⟨true, T.exm hs, fun _ a ha => h a ha, fun q => nomatch q⟩
theorem h_wOnly {C S' : Addr} {ts : Addr → Value → Option Addr → TS} {Wout : WX} {mg : Str → Option Value} {nm : Str} (T : ExcT K mg nm S') (hs : PySem.W.subIn K (.ref C) (.ref S') = some true)
    (h : ∀ a, H a = none → ts a (.ref C) none D' σ H) : wOnly K (.ref S') ts Wout D' (.ref C) none σ H := ⟨true, T.exm hs, fun _ a ha => h a ha, fun q => nomatch q⟩
end

/-! ### a try by its name -/
def tTryA (K : PySem.W.Frag) (c : Value) (i : Nat) (ts : Addr → Value → Option Addr → TS) (Wout : WX) (tb : WX → TS) : TS := fun D σ H => tb (wAs K c i ts Wout D) D σ H
def tTryO (K : PySem.W.Frag) (c : Value) (ts : Addr → Value → Option Addr → TS) (Wout : WX) (tb : WX → TS) : TS := fun D σ H => tb (wOnly K c ts Wout D) D σ H
section
variable {X : Cx} {n x : Str} {c : Value} {i : Nat} {body suite : List Stmt} {b₀ : Stmt} {np pos pos' : Pos} {tb : WX → TS} {ts : Addr → Value → Option Addr → TS} {Wout : WX} {D' : Ends} {σ : L2.St} {H : Hp} {K : PySem.W.Frag}
theorem ps_tryA (hs : X.stack = X.env :: X.outer) (hf : X.env.frame = some X.env.locals) (hN : X.N.Nodup) (hi : X.N[i]? = some n) (hln : X.env.kindOf n = some .local) (hc : Names X x c) (tk : Takes X Wout)
    (hb : ∀ (W : WX) (pn : List (Addr × Obj)) (xe : Value → Shared → Prop), Takes (X.tr pn xe) W → PassesOwn (model X.prog X.w) X.A X.env xe → PSs (X.tr pn xe) body (tb W))
    (hsu : ∀ (a : Addr) (oe : Obj) (cls : Value) (d : Option Addr) (pn : List (Addr × Obj)), Zc cls d oe → (∃ vs, oe.data = .fields vs) → PSs (X.suite a ((a, oe) :: pn)) (b₀ :: suite) (ts a cls d)) (hK : X.K = K := by rfl) :
    PS X (.Try body [.ExceptHandler (some (.Name x np)) (some n) (b₀ :: suite) pos'] [] [] pos) (tTryA K c i ts Wout tb) := hK ▸ ps_try_as hs hf hN hi hln hc tk hb hsu
theorem ps_tryO (hs : X.stack = X.env :: X.outer) (hf : X.env.frame = some X.env.locals) (hc : Names X x c) (tk : Takes X Wout)
    (hb : ∀ (W : WX) (pn : List (Addr × Obj)) (xe : Value → Shared → Prop), Takes (X.tr pn xe) W → PassesOwn (model X.prog X.w) X.A X.env xe → PSs (X.tr pn xe) body (tb W))
    (hsu : ∀ (a : Addr) (oe : Obj) (cls : Value) (d : Option Addr) (pn : List (Addr × Obj)), Zc cls d oe → (∃ vs, oe.data = .fields vs) → PSs (X.suite a ((a, oe) :: pn)) (b₀ :: suite) (ts a cls d)) (hK : X.K = K := by rfl) :
    PS X (.Try body [.ExceptHandler (some (.Name x np)) none (b₀ :: suite) pos'] [] [] pos) (tTryO K c ts Wout tb) := hK ▸ ps_try_only hs hf hc tk hb hsu
theorem h_tryA (h : tb (wAs K c i ts Wout D') D' σ H) : tTryA K c i ts Wout tb D' σ H := h
theorem h_tryO (h : tb (wOnly K c ts Wout D') D' σ H) : tTryO K c ts Wout tb D' σ H := h
end
theorem Post.mono2 {α : Type} {m : Res α} {P P' : α → Prop} {R R' : Err → Prop} (h : Post m P R) (hr : ∀ e, R e → R' e) (hp : ∀ a, P a → P' a) : Post m P' R' := h.mono hp hr
theorem boot_ValueError : bootBuiltins "ValueError" = some (.type "ValueError") := by decide +kernel
/-! ### things that are lists or tuples -/
def lenD (d : D) : Res Int := match d with | .lst l => .ok l.length | .tup l => .ok l.length | .str x => .ok x.length | _ => .stuck
section
variable {K : PySem.W.Frag} {B H : Hp} {Q : VK} {v : V} {d : D} {σ : L2.St} {g : TGs}
theorem Post.lenD {β : Type} {k : Int → Res β} {P : β → Prop} {R : Err → Prop} (h : Post ((Y.lenD d).bind k) P R) (hs : ∀ x, d ≠ .str x) : ∃ ds : List D, (d = .lst ds ∨ d = .tup ds) ∧ Post (k ds.length) P R := by
  cases d with
  | lst l => exact ⟨l, .inl rfl, h⟩
  | tup l => exact ⟨l, .inr rfl, h⟩
  | str x => exact absurd rfl (hs x)
  | _ => exact h.elim
theorem h_tupG {n : Nat} {p : Addr} {xs : List V} {N : L2.St → Hp → Prop} (s : SqT K H p xs) (hl : xs.length = n) (h : g xs σ H N) : gTup K n g (.ref p) σ H N := ⟨p, xs, rfl, s, hl, h⟩
theorem h_gcons {t : TG} {u : TGs} {x : V} {xs : List V} {N : L2.St → Hp → Prop} (h : t x σ H fun σ' H' => u xs σ' H' N) : gCons t u (x :: xs) σ H N := ⟨x, xs, rfl, h⟩
theorem h_gnil {N : L2.St → Hp → Prop} (h : N σ H) : gNil [] σ H N := ⟨rfl, h⟩
end

section
variable {K : PySem.W.Frag} {B H : Hp} {Q : VK} {p : Addr} {xs : List V} {d1 d2 d3 d4 d5 : D}
theorem h_lenTl {l : List D} (s : SqT K H p xs) (r : RepL K B xs (l.map enc)) (h : Q (.int l.length) H) : rLenY K [V.ref p] H Q := by
  refine ⟨p, xs, rfl, .inr s, ?_⟩
  rw [show xs.length = l.length from by rw [r.length, List.length_map]]
  exact h
theorem tup2 {x y : V} (hl : xs.length = 2) (h0 : atI xs 0 = some x) (h1 : atI xs 1 = some y) : xs = [x, y] := by
  match xs, hl with
  | [a, b], _ =>
    have e0 : a = x := Option.some.inj h0
    have e1 : b = y := Option.some.inj h1
    rw [e0, e1]
theorem tup3 {x y z : V} (hl : xs.length = 3) (h0 : atI xs 0 = some x) (h1 : atI xs 1 = some y) (h2 : atI xs 2 = some z) : xs = [x, y, z] := by
  match xs, hl with
  | [a, b, c], _ =>
    have e0 : a = x := Option.some.inj h0
    have e1 : b = y := Option.some.inj h1
    have e2 : c = z := Option.some.inj h2
    rw [e0, e1, e2]
theorem tup4 {x y z u : V} (hl : xs.length = 4) (h0 : atI xs 0 = some x) (h1 : atI xs 1 = some y) (h2 : atI xs 2 = some z) (h3 : atI xs 3 = some u) : xs = [x, y, z, u] := by
  match xs, hl with
  | [a, b, c, d], _ =>
    have e0 : a = x := Option.some.inj h0
    have e1 : b = y := Option.some.inj h1
    have e2 : c = z := Option.some.inj h2
    have e3 : d = u := Option.some.inj h3
    rw [e0, e1, e2, e3]
theorem RepL.open2 (r : RepL K B xs [d1, d2]) : ∃ u1 u2, xs = [u1, u2] ∧ Rep K B u1 d1 ∧ Rep K B u2 d2 := by
  cases r with | cons h1 r => cases r with | cons h2 r => cases r; exact ⟨_, _, rfl, h1, h2⟩
theorem RepL.open3 (r : RepL K B xs [d1, d2, d3]) : ∃ u1 u2 u3, xs = [u1, u2, u3] ∧ Rep K B u1 d1 ∧ Rep K B u2 d2 ∧ Rep K B u3 d3 := by
  cases r with | cons h1 r => cases r with | cons h2 r => cases r with | cons h3 r => cases r; exact ⟨_, _, _, rfl, h1, h2, h3⟩
theorem RepL.open4 (r : RepL K B xs [d1, d2, d3, d4]) : ∃ u1 u2 u3 u4, xs = [u1, u2, u3, u4] ∧ Rep K B u1 d1 ∧ Rep K B u2 d2 ∧ Rep K B u3 d3 ∧ Rep K B u4 d4 := by
  cases r with | cons h1 r => cases r with | cons h2 r => cases r with | cons h3 r => cases r with | cons h4 r => cases r; exact ⟨_, _, _, _, rfl, h1, h2, h3, h4⟩
end
/-! ### defs with defaults -/
structure FunV (K : PySem.W.Frag) (x qual : Str) (st : Stmt) (dv : List Value) (f : Addr) (fd : FuncData) : Prop where
  ex : ∃ (oc : Value) (od : Option Addr) (T : Addr) (o : Obj) (n : Nat) (kV doc pm : Value) (an : Option Addr) (cdv ct : Value) (osl : Array (Option Value)),
    fd = PySem.W.fnOf x qual (defArgs st) (defBody st) (defScope st) (.ref T) kV doc pm an cdv ct ∧ K.lookup f = some ⟨oc, od, .func fd, osl⟩ ∧ PySem.W.codeIn K cdv qual = true ∧ K.lookup T = some o ∧ o.data = .seq dv.toArray n
  kp : PySem.W.keepIn K (.ref f) = true
section
variable {P : Program} {w : World} {K : PySem.W.Frag} {mg : Str → Option Value} {base : Heap} {x qual : Str} {st : Stmt} {dv : List Value} {f : Addr} {fd : FuncData} {ps ks : List Str}
theorem funV_mk {oc : Value} {od an oT : Option Addr} {osl sT : Array (Option Value)} {kV doc pm cdv ct cT : Value} {T : Addr} {n : Nat} (l : K.lookup f = some ⟨oc, od, .func (PySem.W.fnOf x qual (defArgs st) (defBody st) (defScope st) (.ref T) kV doc pm an cdv ct), osl⟩)
    (c : PySem.W.codeIn K cdv qual = true) (k : PySem.W.keepIn K (.ref f) = true) (lT : K.lookup T = some ⟨cT, oT, .seq dv.toArray n, sT⟩) : FunV K x qual st dv f (PySem.W.fnOf x qual (defArgs st) (defBody st) (defScope st) (.ref T) kV doc pm an cdv ct) :=
  ⟨⟨oc, od, T, _, n, kV, doc, pm, an, cdv, ct, osl, rfl, l, c, lT, rfl⟩, k⟩
theorem FunV.okX {N : List Str} {k : Nat} {sp : Sp} (F : FunV K x qual st dv f fd) (S : FnScope N ps (defScope st)) (len : ∀ vs H Q E, sp vs H Q E → vs.length = ps.length)
    (hbody : ∀ (cdv : Value) (A : Around) (outer : List Env) (s : Shared) (H : Hp) (vs : List V) (Q : VK) (E : XK), Room k (A.deeper (envOfC qual (defScope st) s.heap.objs.size f cdv)) → sp vs H Q E →
      ∃ t, PSs (cxOf (L2.CX P w) P w K mg base N qual (defScope st) f cdv A outer s H E) (defBody st) t ∧ t { nx := fun _ H' => Q .non H', rt := Q } (start N vs) H) : FnOk P w K mg base (L2.CX P w) (k + 1) f fd ps sp := by
  obtain ⟨oc, od, T, o, n, kV, doc, pm, an, cdv, ct, osl, rfl, lk, hcd, _, _⟩ := F.ex
  exact fn_of lk hcd S len fun A outer s H vs Q E hr hsp => hbody cdv A outer s H vs Q E hr hsp
theorem FunV.ok {N : List Str} {k : Nat} {sp : Sp} (F : FunV K x qual st dv f fd) (S : FnScope N ps (defScope st)) (len : ∀ vs H Q E, sp vs H Q E → vs.length = ps.length)
    (hbody : ∀ (cdv : Value) (A : Around) (outer : List Env) (s : Shared) (H : Hp) (vs : List V) (Q : VK) (E : XK), Room k (A.deeper (envOfC qual (defScope st) s.heap.objs.size f cdv)) → sp vs H Q E →
      ∃ t, PSs (cxOf CX0 P w K mg base N qual (defScope st) f cdv A outer s H E).nox (defBody st) t ∧ t { nx := fun _ H' => Q .non H', rt := Q } (start N vs) H) : FnOk P w K mg base CX0 (k + 1) f fd ps sp := by
  obtain ⟨oc, od, T, o, n, kV, doc, pm, an, cdv, ct, osl, rfl, lk, hcd, _, _⟩ := F.ex
  refine fn_of lk hcd S len fun A outer s H vs Q E hr hsp => ?_
  obtain ⟨t, h, q⟩ := hbody cdv A outer s H vs Q E hr hsp
  exact ⟨t, h.nox, q⟩
/-- n values are written, the defaults behind the first j fill up -/
theorem FunV.binds (F : FunV K x qual st dv f fd) (n j : Nat) (hn : n + (dv.length - j) = ps.length)
    (h : ∀ (T : Addr) (kV doc pm : Value) (an : Option Addr) (cdv ct : Value) (us : List Value), us.length = n →
      ∃ k, bindArgs (PySem.W.fnOf x qual (defArgs st) (defBody st) (defScope st) (.ref T) kV doc pm an cdv ct) ⟨us, []⟩ = seqItems? (.ref T) >>= k ∧ k (some dv.toArray) = pure (ps.zip (us ++ dv.drop j))) : Binds K fd ps (dv.drop j) := by
  obtain ⟨oc, od, T, o, m, kV, doc, pm, an, cdv, ct, osl, rfl, lk, hcd, lT, oT⟩ := F.ex
  refine fun s us X hlen => ?_
  have l2 : us.length = n := by
    rw [List.length_append, List.length_drop] at hlen
    omega
  obtain ⟨k, e1, e2⟩ := h T kV doc pm an cdv ct us l2
  refine BindsTo.of_looks fun M => ?_
  rw [e1]
  exact looks_items X lT oT (.of_pure e2)
theorem FunV.kb {g : List Value → List Value → List Value} {gV : List V → List V → List V} (F : FunV K x qual st dv f fd)
    (h : ∀ (T : Addr) (kV doc pm : Value) (an : Option Addr) (cdv ct : Value) (us ws : List Value), (g us ws).length = ps.length → ∃ k, bindArgs (PySem.W.fnOf x qual (defArgs st) (defBody st) (defScope st) (.ref T) kV doc pm an cdv ct) ⟨us, ks.zip ws⟩ = seqItems? (.ref T) >>= k ∧ k (some dv.toArray) = pure (ps.zip (g us ws)))
    (r : ∀ {vs : List V} {us : List Value} {zs : List V} {ws : List Value}, Vals vs us → Vals zs ws → Vals (gV vs zs) (g us ws)) : KBinds K fd ps ks g gV := by
  obtain ⟨oc, od, T, o, m, kV, doc, pm, an, cdv, ct, osl, rfl, lk, hcd, lT, oT⟩ := F.ex
  refine ⟨fun s us ws X hl => ?_, r⟩
  obtain ⟨k, e1, e2⟩ := h T kV doc pm an cdv ct us ws hl
  refine BindsTo.of_looks fun M => ?_
  rw [e1]
  exact looks_items X lT oT (.of_pure e2)
end
/-! ### // by what may be negative -/
def CDivZ (_ j : Int) : Prop := j ≠ 0 ∧ j.natAbs.log2 < 9000
instance {i j : Int} : Decidable (CDivZ i j) := inferInstanceAs (Decidable (_ ∧ _))
theorem op_fdivZ {X : Cx} : OpR X (binaryOp .FloorDiv) (rI CDivZ fun i j => .int (Int.fdiv i j)) := opI fun i j _ _ _ _ _ hc q => floordiv_int hc.1 q (.inl (PyProof.noPylong_of_log2 hc.2))
/-! ### x is None -/
def isNonD : D → Bool | .non => true | _ => false
def rIsN : V → V → Hp → VK → Prop := fun x y H Q => y = .non ∧ Q (.bl (decide (x = .non))) H
def rNotN : V → V → Hp → VK → Prop := fun x y H Q => y = .non ∧ Q (.bl (!decide (x = .non))) H
theorem op_isNn {X : Cx} : OpR X (compareOp .Is) rIsN := op_isN
theorem op_notNn {X : Cx} : OpR X (compareOp .IsNot) rNotN := op_notN
section
variable {K : PySem.W.Frag} {B H : Hp} {Q : VK} {v : V} {d : D}
theorem Rep.isNon (r : Rep K B v d) : decide (v = .non) = isNonD d := by
  cases r <;> rfl
theorem h_isN (r : Rep K B v d) (h : Q (.bl (isNonD d)) H) : rIsN v .non H Q := ⟨rfl, by rw [r.isNon]; exact h⟩
theorem h_notN (r : Rep K B v d) (h : Q (.bl (!isNonD d)) H) : rNotN v .non H Q := ⟨rfl, by rw [r.isNon]; exact h⟩
end
/-! ### bool + bool, comparisons of lists, xs[::-1], xs.pop(i) -/
theorem int_add_bb (a b : Bool) : Gives (Builtin.«int.__add__» ⟨[.bool a, .bool b], []⟩) (.int ((if a = true then (1 : Int) else 0) + (if b = true then (1 : Int) else 0))) :=
  .of_wp fun M A E s Q h => by obtain ⟨hp, g, d, tk, os⟩ := s; wp_walk; exact ⟨_, rfl, h⟩
def rAddBB : V → V → Hp → VK → Prop := fun x y H Q => ∃ a b, x = .bl a ∧ y = .bl b ∧ Q (.int (b2z a + b2z b)) H
theorem op_addBB {X : Cx} : OpR X (binaryOp .Add) rAddBB := by
  intro pins s σ H x y v u Q I rx ry h
  obtain ⟨a, b, rfl, rfl, q⟩ := h
  cases rx
  cases ry
  exact binaryOp_gives (op := .Add) (T := "bool") rfl rfl F.fills_bool_add F.slot_bool_add F.entry_int_add (F.args_int_add_2 _ _) (int_add_bb a b) trivial ⟨.int (b2z a + b2z b), H, I.tok _, ⟨_, rfl⟩, q⟩
def rAddIB : V → V → Hp → VK → Prop := fun x y H Q => ∃ i k, x = .int i ∧ y = .bl k ∧ Q (.int (i + b2i k)) H
theorem op_addIB {X : Cx} : OpR X (binaryOp .Add) rAddIB := op_add_ib
section
variable {K : PySem.W.Frag} {B B' H H' : Hp} {σ : L2.St} {Q : VK} {x y v : V} {d e : D} {p q : Addr} {xs ys : List V} {te : TE}
theorem h_addBB {a b : Bool} (h : Q (.int (b2z a + b2z b)) H) : rAddBB (.bl a) (.bl b) H Q := ⟨a, b, rfl, rfl, h⟩
theorem h_addIB {i : Int} {k : Bool} (h : Q (.int (i + b2z k)) H) : rAddIB (.int i) (.bl k) H Q := ⟨i, k, rfl, rfl, by cases k <;> exact h⟩
/-- what may be compared as data -/
def Cmp (K : PySem.W.Frag) (H : Hp) (v : V) (d : D) : Prop := flatD d = true → Dp K H v (pyD d)
theorem Rep.cp (w : Ex B H) (r : Rep K B v d) : Cmp K H v d := r.dp w
theorem SqL.cp {ds : List D} (w : Ex B H) (s : SqL K H p xs) (r : RepL K B xs ds) : Cmp K H (.ref p) (.lst ds) := fun f => .lst s (RepL.dp w r f)
theorem h_eqC (rx : Cmp K H x d) (ry : Cmp K H y e) (o : okEq d e) (h : Q (.bl (eqD d e)) H) : rEqD K x y H Q := ⟨_, _, rx o.1, ry o.2.1, o.2.2.1, o.2.2.2, h⟩
theorem h_neC (rx : Cmp K H x d) (ry : Cmp K H y e) (o : okEq d e) (h : Q (.bl (!eqD d e)) H) : rNeD K x y H Q := ⟨_, _, rx o.1, ry o.2.1, o.2.2.1, o.2.2.2, h⟩
/-- xs[::-1] -/
theorem h_revL (h : te σ H fun x H1 => ∃ a xs, x = .ref a ∧ SqL K H1 a xs ∧ NwL xs.reverse H1 Q) : tRevL K te σ H Q := h
theorem h_revQ (s : SqL K H p xs) (h : NwL xs.reverse H Q) : ∃ a ys, V.ref p = .ref a ∧ SqL K H a ys ∧ NwL ys.reverse H Q := ⟨p, xs, rfl, s, h⟩
theorem RepL.rev0 : ∀ {xs : List V} {ds : List D}, RepL K B xs ds → RepL K B xs.reverse ds.reverse
  | _, _, .nil => .nil
  | _, _, .cons h t => by rw [List.reverse_cons, List.reverse_cons]; exact (RepL.rev0 t).append (.cons h .nil)
theorem RepL.rev {α : Type} [Enc α] {l : List α} (r : RepL K B xs (l.map enc)) : RepL K B xs.reverse (l.reverse.map enc) := by
  rw [List.map_reverse]
  exact RepL.rev0 r
theorem RepL.erase : ∀ {xs : List V} {ds : List D} (k : Nat), RepL K B xs ds → RepL K B (xs.eraseIdx k) (ds.eraseIdx k)
  | _, _, _, .nil => .nil
  | _, _, 0, .cons h t => t
  | _, _, k + 1, .cons h t => .cons h (RepL.erase k t)
theorem map_erase {α : Type} [Enc α] : ∀ (l : List α) (k : Nat), (l.eraseIdx k).map (enc : α → D) = (l.map enc).eraseIdx k
  | [], _ => rfl
  | _ :: _, 0 => rfl
  | x :: xs, k + 1 => congrArg (enc x :: ·) (map_erase xs k)
/-- l.pop(i), i from 0 on -/
def popR {α : Type} (l : List α) (i : Int) : Res (α × List α) := if 0 ≤ i ∧ i < (l.length : Int) ∧ l.length ≤ 1000000 then match l[i.toNat]? with | some x => .ok (x, l.eraseIdx i.toNat) | none => .stuck else .stuck
theorem Post.pop {α β : Type} {l : List α} {i : Int} {k : α × List α → Res β} {P : β → Prop} {R : Err → Prop} (h : Post ((popR l i).bind k) P R) : ∃ x, (0 ≤ i ∧ i < (l.length : Int) ∧ l.length ≤ 1000000) ∧ l[i.toNat]? = some x ∧ Post (k (x, l.eraseIdx i.toNat)) P R := by
  unfold popR at h
  by_cases c : 0 ≤ i ∧ i < (l.length : Int) ∧ l.length ≤ 1000000
  · rw [if_pos c] at h
    cases e : l[i.toNat]? with
    | none => rw [e] at h; exact h.elim
    | some x => rw [e] at h; exact ⟨x, c, rfl, h⟩
  · rw [if_neg c] at h; exact h.elim
theorem h_popL {α : Type} [Enc α] {l : List α} {i : Int} {b : α} (w : Ex B H) (m : Mu K B H p (l.map enc)) (hi : 0 ≤ i ∧ i < (l.length : Int) ∧ l.length ≤ 1000000) (hb : l[i.toNat]? = some b)
    (h : ∀ y H', Stp [p] B H B H' → Mu K B H' p ((l.eraseIdx i.toNat).map enc) → Rep K B y (enc b) → Q y H') : rPopAt (.ref p) [.int i] H Q := by
  obtain ⟨hb0, xs, hp, hr⟩ := id m
  have hl : xs.length = l.length := by rw [hr.length, List.length_map]
  obtain ⟨u, hu, ru⟩ := hr.get (i := i.toNat) (d := enc b) (by rw [List.getElem?_map, hb]; rfl)
  have rl : RepL K B (xs.eraseIdx i.toNat) ((l.eraseIdx i.toNat).map enc) := by
    rw [map_erase]
    exact RepL.erase _ hr
  refine ⟨p, xs, i, i.toNat, u, rfl, rfl, hp, by omega, by omega, ?_, hu, ?_⟩
  · unfold seqIndex?
    rw [hl]
    simp [show ¬ i < 0 from by omega, hi.1, hi.2.1]
  · obtain ⟨s, m'⟩ := Stp.mut w m rl
    exact h _ _ s m' ru
end
theorem pg_tupK {X : Cx} {pos : Pos} {es : List Expr} {k : Nat} {t : TGs} {n : Nat} {K : PySem.W.Frag} (hc : X.calm = true) (hK : X.K = K) (h : PGs X es t)
    (hn : (assignEach es X.env).length = n := by rfl) (hst : (assignEach es X.env).findIdx? (·.1) = none := by rfl) : PG X (.Tuple es k pos) (gTup K n t) := hK ▸ pg_tup hc h hn hst
/-! ### l * k, casts, constants -/
theorem list_mulW (l : Addr) (items : Array Value) (n : Nat) (dd : Option Addr) (sl : Array (Option Value)) (x : Int) (u : Tok) (hc0 : ¬(!Builtin.List.listFitsIndex x) = true) (hc1 : ¬items.size * x.toNat > (2 ^ 63 - 1) / 8) (hc2 : ¬Builtin.List.listTooLong (items.size * x.toNat) = true) :
    Meets (Builtin.«list.__mul__» ⟨[.ref l, .int x u], []⟩) (fun _ R s => s.heap.get? l = some { cls := .type "list", dict := dd, data := .seq items n, slots := sl } ∧ R (.ok (.ret (Value.ref s.heap.objs.size))) { s with heap := s.heap.push { cls := Value.type "list", data := Data.seq (List.foldl (fun x1 x2 => x1 ++ x2) #[] (List.replicate (if items.isEmpty = true then 0 else x.toNat) items)) }, toks := s.toks }) :=
  .of_wp fun prog w A R s h => by
    obtain ⟨hp, g, d, tk, os⟩ := s; obtain ⟨hl, h⟩ := h
    have hsz := PySem.AutoListH.joined_fits hc2
    wp_walk; refine wpAny_ite_false (decide_eq_false (Nat.not_lt.mpr hsz)) ?_; wp_walk; exact ⟨_, rfl, h⟩
theorem int_rmulW (a : Int) (t : Tok) (l : Addr) (items : Array Value) (n : Nat) (dd : Option Addr) (sl : Array (Option Value)) :
    Meets (Builtin.«int.__rmul__» ⟨[.int a t, .ref l], []⟩) (fun _ R s => s.heap.get? l = some { cls := .type "list", dict := dd, data := .seq items n, slots := sl } ∧ R (.ok (.ret Value.notImplemented)) s) :=
  .of_wp fun prog w A R s h => by obtain ⟨hp, g, d, tk, os⟩ := s; obtain ⟨hl, h⟩ := h; wp_walk; exact ⟨_, rfl, h⟩
def rRepQ (K : PySem.W.Frag) : R2 := fun x y H Q => ∃ l k xs, x = .ref l ∧ y = .int k ∧ SqL K H l xs ∧ -(2 ^ 63) ≤ k ∧ k < 2 ^ 63 ∧ xs.length * k.toNat ≤ sizeLine ∧ NwL (List.replicate k.toNat xs).flatten H Q
theorem op_repQ {X : Cx} : OpR X (binaryOp .Mult) (rRepQ X.K) := by
  intro pins s σ H x y v u Q I rx ry h
  obtain ⟨l, k, xs, rfl, rfl, hH, h1, h2, hz, q⟩ := h
  cases rx
  obtain ⟨t, rfl⟩ := ry
  obtain ⟨its, r, p1, z⟩ := I.list hH
  have hl := r.length
  obtain ⟨⟨cls, dd, data, sl⟩, e, hc, n, hd⟩ := p1.isList
  simp only at hc hd
  subst hc hd
  have hlen : its.toArray.size * k.toNat ≤ sizeLine := by rw [List.size_toArray, ← hl]; exact hz
  have hcap : ¬ its.toArray.size * k.toNat > (2 ^ 63 - 1) / 8 := by
    have : (sizeLine : Nat) ≤ (2 ^ 63 - 1) / 8 := by decide
    omega
  have hfit : ¬ (!Builtin.List.listFitsIndex k) = true := by
    rw [fitsIndex_both h1 h2]
    exact Bool.false_ne_true
  have hlong : ¬ Builtin.List.listTooLong (its.toArray.size * k.toNat) = true := by
    rw [notLongL hlen]
    exact Bool.false_ne_true
  have hnew : List.foldl (fun x1 x2 => x1 ++ x2) #[] (List.replicate (if its.toArray.isEmpty = true then 0 else k.toNat) its.toArray) = (List.replicate k.toNat its).flatten.toArray := by
    have f0 : ∀ m : Nat, List.foldl (fun x1 x2 => x1 ++ x2) #[] (List.replicate m its.toArray) = (List.replicate m its).flatten.toArray := fun m => by
      have := foldl_rep its m []
      rw [List.nil_append] at this
      exact this
    rw [f0]
    cases its with
    | nil => simp
    | cons a r' => rw [if_neg (by simp)]
  refine wpAny_binaryOp_repeat_ref (T := "list") (U := "int") (by decide) ⟨_, e, rfl⟩ (fun s' => typeIs_int s' k t) noFill_list_mul F.fills_int_mul F.slot_int_rmul repeat_list F.slot_int_index.lookup
    (call_meets F.slot_int_rmul (typeIs_int s k t) F.entry_int_rmul (F.args_int_rmul_2 _ _) (int_rmulW k t l its.toArray n dd sl)
      ⟨e, rfl, ⟨_, e, rfl⟩, call_meets F.slot_list_mul ⟨_, e, rfl⟩ F.entry_list_mul (F.args_list_mul_2 _ _) (list_mulW l its.toArray n dd sl k t hfit hcap hlong) ⟨e, ?_⟩⟩)
  rw [hnew]
  exact ⟨.ref _, _, I.lnew (t' := s.toks) (r.rep k.toNat) (by rw [PyProof.Rows.lm_len_rep_flat, Nat.mul_comm]; exact hz), rfl, q _ I.fresh⟩
section
variable {K : PySem.W.Frag} {B B' H H' : Hp} {σ : L2.St} {Q : VK} {x y v : V} {d e : D} {p q : Addr} {xs ys : List V} {te : TE}
theorem h_repQ {k : Int} {n : Nat} (s : SqL K H p xs) (hn : xs.length = n) (hz : n * k.toNat ≤ 1000000 ∧ -(2 ^ 62) ≤ k ∧ k < 2 ^ 62) (h : NwL (List.replicate k.toNat xs).flatten H Q) : rRepQ K (.ref p) (.int k) H Q :=
  ⟨p, k, xs, rfl, rfl, s, by omega, by omega, by rw [hn]; exact Nat.le_trans hz.1 (by decide), h⟩
theorem RepL.rep0 {ds : List D} (r : RepL K B xs ds) : ∀ k : Nat, RepL K B (List.replicate k xs).flatten (List.replicate k ds).flatten
  | 0 => .nil
  | k + 1 => by rw [List.replicate_succ, List.replicate_succ, List.flatten_cons, List.flatten_cons]; exact r.append (RepL.rep0 r k)
/-- l * k -/
def timesL {α : Type} (l : List α) (k : Int) : List α := (List.replicate k.toNat l).flatten
theorem RepL.times {α : Type} [Enc α] {l : List α} (r : RepL K B xs (l.map enc)) (k : Int) : RepL K B (List.replicate k.toNat xs).flatten ((timesL l k).map enc) := by
  have e : (timesL l k).map (enc : α → D) = (List.replicate k.toNat (l.map enc)).flatten := by
    unfold timesL
    rw [List.map_flatten, List.map_replicate]
  rw [e]
  exact r.rep0 _
/-- isinstance of a list that is only read, or of our own -/
theorem isiL {t : String} {l : List D} (s : SqL K H p xs) (q : Q (.bl (isA t (.lst l))) H) (ht : t ∈ ["bool", "int", "str", "list", "tuple", "dict"] := by simp) : rIsi K [.ref p, .ty t] H Q := by
  have ty : TyX K H (.ref p) (.type "list") := by
    rcases s with (h | ⟨o, h⟩) | ⟨o, its, n, h, hc, _⟩
    · exact .base (.lst h)
    · exact .base (.frz h)
    · exact .kList h hc
  exact ⟨.ref p, .ty t, _, .type t, isA t (.lst l), rfl, .ty t, ty, kit_ty (kit_tab _ (tyD_in (.lst l) rfl) _ ht), q⟩
end
/-! ### things read as what they are -/
class Dec (α : Type) [Enc α] where
  dec : D → Option α
  ok : ∀ d x, dec d = some x → d = enc x
instance : Dec D := ⟨fun d => some d, fun d x e => Option.some.inj e⟩
instance : Dec Int := ⟨fun d => match d with | .int i => some i | _ => none, fun d x e => by cases d <;> simp at e; rw [e]; rfl⟩
instance : Dec Bool := ⟨fun d => match d with | .bl i => some i | _ => none, fun d x e => by cases d <;> simp at e; rw [e]; rfl⟩
instance : Dec Str := ⟨fun d => match d with | .str i => some i | _ => none, fun d x e => by cases d <;> simp at e; rw [e]; rfl⟩
instance {α : Type} [Enc α] [Dec α] : Dec (Option α) := ⟨fun d => match d with | .non => some none | d => (Dec.dec d).map some, fun d x e => by
  cases d with
  | non => cases Option.some.inj e; rfl
  | _ => all_goals
    obtain ⟨y, e1, e2⟩ := Option.map_eq_some_iff.mp (show Option.map some _ = some x from e)
    rw [← e2]
    show _ = (enc y : D)
    exact Dec.ok _ _ e1⟩
instance {α β : Type} [Enc α] [Enc β] [Dec α] [Dec β] : Dec (Tp2 α β) := ⟨fun d => match d with | .tup [a, b] => (Dec.dec a).bind fun x => (Dec.dec b).bind fun y => some ⟨x, y⟩ | _ => none, fun d x e => by
  split at e
  · obtain ⟨u, e1, e⟩ := Option.bind_eq_some_iff.mp e
    obtain ⟨w, e2, e⟩ := Option.bind_eq_some_iff.mp e
    cases Option.some.inj e
    rw [Dec.ok _ _ e1, Dec.ok _ _ e2]
    rfl
  · cases e⟩
instance {α β γ : Type} [Enc α] [Enc β] [Enc γ] [Dec α] [Dec β] [Dec γ] : Dec (Tp3 α β γ) := ⟨fun d => match d with | .tup [a, b, c] => (Dec.dec a).bind fun x => (Dec.dec b).bind fun y => (Dec.dec c).bind fun z => some ⟨x, y, z⟩ | _ => none, fun d x e => by
  split at e
  · obtain ⟨u, e1, e⟩ := Option.bind_eq_some_iff.mp e
    obtain ⟨w, e2, e⟩ := Option.bind_eq_some_iff.mp e
    obtain ⟨w2, e3, e⟩ := Option.bind_eq_some_iff.mp e
    cases Option.some.inj e
    rw [Dec.ok _ _ e1, Dec.ok _ _ e2, Dec.ok _ _ e3]
    rfl
  · cases e⟩
def decs {α : Type} [Enc α] [Dec α] : List D → Option (List α)
  | [] => some []
  | d :: ds => (Dec.dec d).bind fun x => (decs ds).bind fun xs => some (x :: xs)
theorem decs_ok {α : Type} [Enc α] [Dec α] : ∀ (ds : List D) (l : List α), decs ds = some l → ds = l.map enc
  | [], l, e => by cases Option.some.inj e; rfl
  | d :: ds, l, e => by
    obtain ⟨u, e1, e⟩ := Option.bind_eq_some_iff.mp e
    obtain ⟨w, e2, e⟩ := Option.bind_eq_some_iff.mp e
    cases Option.some.inj e
    rw [Dec.ok _ _ e1, decs_ok _ _ e2]
    rfl
instance {α : Type} [Enc α] [Dec α] : Dec (List α) := ⟨fun d => match d with | .lst ds => decs ds | _ => none, fun d x e => by
  split at e
  · rw [decs_ok _ _ e]; rfl
  · cases e⟩
def asD (α : Type) [Enc α] [Dec α] (d : D) : Res α := match Dec.dec d with | some x => .ok x | none => .stuck
theorem Post.asD {α β : Type} [Enc α] [Dec α] {d : D} {k : α → Res β} {P : β → Prop} {R : Err → Prop} (h : Post ((Y.asD α d).bind k) P R) : ∃ x, d = enc x ∧ Post (k x) P R := by
  unfold Y.asD at h
  cases e : Dec.dec (α := α) d with
  | none => rw [e] at h; exact h.elim
  | some x => rw [e] at h; exact ⟨x, Dec.ok _ _ e, h⟩
/-- what is there -/
def someR {α : Type} (o : Option α) : Res α := match o with | some x => .ok x | none => .stuck
theorem Post.some {α β : Type} {o : Option α} {k : α → Res β} {P : β → Prop} {R : Err → Prop} (h : Post ((someR o).bind k) P R) : ∃ x, o = Option.some x ∧ Post (k x) P R := by
  cases o with
  | none => exact h.elim
  | some x => exact ⟨x, rfl, h⟩
/-- a constant of the module: data that is written out -/
structure CT {α : Type} [Enc α] (K : PySem.W.Frag) (mg : Str → Option Value) (nm : Str) (C : Addr) (x : α) : Prop where
  g : mg nm = Option.some (.ref C)
  rep : ∀ B, Rep K B (.ref C) (enc x)
/-! ### defs that hand a new list back; l.pop() -/
def RetF (K : PySem.W.Frag) (W : List Addr) (B H : Hp) (ds : List D) (Q : VK) : Prop := ∀ p B' H', Stp W B H B' H' → H p = none → Mu K B' H' p ds → Q (.ref p) H'
def RetMF (K : PySem.W.Frag) (q : Addr) (B H : Hp) (ds es : List D) (Q : VK) : Prop := ∀ p B' H', Stp [q] B H B' H' → H p = none → Mu K B' H' p ds → Mu K B' H' q es → Q (.ref p) H'
def popE {α : Type} (l : List α) : Res (α × List α) := match l[l.length - 1]? with | some x => .ok (x, l.dropLast) | none => .stuck
theorem Post.popE {α β : Type} {l : List α} {k : α × List α → Res β} {P : β → Prop} {R : Err → Prop} (h : Post ((Y.popE l).bind k) P R) : ∃ x, l[l.length - 1]? = Option.some x ∧ Post (k (x, l.dropLast)) P R := by
  unfold Y.popE at h
  cases e : l[l.length - 1]? with
  | none => rw [e] at h; exact h.elim
  | some x => rw [e] at h; exact ⟨x, rfl, h⟩
section
variable {K : PySem.W.Frag} {B H : Hp} {Q : VK} {p : Addr} {xs : List V}
theorem RepL.dropLast : ∀ {xs : List V} {ds : List D}, RepL K B xs ds → RepL K B xs.dropLast ds.dropLast
  | _, _, .nil => .nil
  | _, _, .cons _ .nil => .nil
  | _, _, .cons h (.cons h2 t) => .cons h (RepL.dropLast (.cons h2 t))
theorem h_popE {α : Type} [Enc α] {l : List α} {b : α} (w : Ex B H) (m : Mu K B H p (l.map enc)) (hb : l[l.length - 1]? = some b)
    (h : ∀ y H', Stp [p] B H B H' → Mu K B H' p (l.dropLast.map enc) → Rep K B y (enc b) → Q y H') : rPop (.ref p) [] H Q := by
  obtain ⟨hb0, xs, hp, hr⟩ := id m
  have hl : xs.length = l.length := by rw [hr.length, List.length_map]
  obtain ⟨u, hu, ru⟩ := hr.get (i := l.length - 1) (d := enc b) (by rw [List.getElem?_map, hb]; rfl)
  have rl : RepL K B xs.dropLast (l.dropLast.map enc) := by
    rw [List.map_dropLast]
    exact RepL.dropLast hr
  obtain ⟨s, m'⟩ := Stp.mut w m rl
  exact ⟨p, xs, u, rfl, rfl, hp, by rw [hl]; exact hu, h _ _ s m' ru⟩
end
end Y

set_option Elab.async false
set_option linter.all false
set_option maxRecDepth 100000
set_option maxHeartbeats 2000000
namespace Y
open PySem PySem.Spec PyProof.Rows
open L2
open Enc (enc)
/-! # more readings: max of two, insert, enumerate -/
theorem h_fr {t : TS} {D' : Ends} {σ σ' : L2.St} {H : Hp} (e : σ = σ') (h : t D' σ' H) : t D' σ H := by rw [e]; exact h
def maxI (i j : Int) : Int := if j > i then j else i
def rMaxY : List V → Hp → VK → Prop := fun xs H Q => ∃ i j, xs = [.int i, .int j] ∧ Q (.int (if j > i then j else i)) H
theorem cr_max {X : Cx} (hc : X.calm = true) : CallR X (.builtin "max") rMaxY := call_max2 hc
theorem h_max {i j : Int} {H : Hp} {Q : VK} (h : Q (.int (maxI i j)) H) : rMaxY [.int i, .int j] H Q := ⟨i, j, rfl, h⟩
def rInsY : V → List V → Hp → VK → Prop := fun x vs H Q => ∃ (l : Addr) (xs : List V) (i : Int) (y : V), x = .ref l ∧ vs = [.int i, y] ∧ H l = some (.lst xs) ∧ xs.length < sizeLine ∧ 0 ≤ i ∧ i < 2 ^ 63 ∧ Q .non (upd H l (.lst (xs.take i.toNat ++ [y] ++ xs.drop i.toNat)))
theorem mt_insY {X : Cx} : MtR X "list.insert" rInsY := mt_insert
def insL {α : Type} (l : List α) (i : Int) (b : α) : List α := l.take i.toNat ++ [b] ++ l.drop i.toNat
section
variable {K : PySem.W.Frag} {B B' H H' : Hp} {Q : VK} {p : Addr} {y : V} {i : Int}
theorem h_insert {α : Type} [Enc α] {l : List α} {b : α} (w : Ex B H) (m : Mu K B H p (l.map enc)) (ry : Rep K B y (enc b)) (hz : l.length < 1000000 ∧ 0 ≤ i ∧ i < 2 ^ 63) (h : ∀ H', Stp [p] B H B H' → Mu K B H' p ((insL l i b).map enc) → Q .non H') : rInsY (.ref p) [.int i, y] H Q := by
  obtain ⟨hb, xs, hp, hr⟩ := id m
  refine ⟨p, xs, i, y, rfl, rfl, hp, by rw [hr.length, List.length_map]; exact Nat.lt_of_lt_of_le hz.1 (by decide), hz.2.1, hz.2.2, ?_⟩
  have rl : RepL K B (xs.take i.toNat ++ [y] ++ xs.drop i.toNat) ((insL l i b).map enc) := by
    unfold insL
    rw [List.map_append, List.map_append, List.map_take, List.map_drop]
    exact ((hr.take _).append (.cons ry .nil)).append (hr.drop _)
  obtain ⟨s, m'⟩ := Stp.mut w m rl
  exact h _ s m'
end
/-- the things with their places -/
def enumL {α : Type} (l : List α) : List (Tp2 Int α) := l.mapIdx fun i x => ⟨(i : Int), x⟩
def En (K : PySem.W.Frag) (vs : List V) (g : TG) (tb : TS) (D' : Ends) (σ : L2.St) (H : Hp) : Prop := tFor (iEnum K (fun _ H Q => Q vs H)) g tb D' σ H
section
variable {K : PySem.W.Frag} {σ : L2.St} {B H : Hp} {p : Addr} {xs : List V} {tb : TS} {D' : Ends} {g : TG} {α β S : Type} {P : β → Prop} {R : Err → Prop}
theorem h_enumE {ta : TA} (h : ta σ H fun vs H1 => En K vs g tb D' σ H1) : tFor (iEnum K ta) g tb D' σ H := h
theorem h_forEn [Enc α] {l : List α} {s0 : S} {f : Tp2 Int α → S → Res (Fl S β)} {k : S → Res β} (hP : Post ((forR (enumL l) s0 f).bind (afterR k)) P R) (hs : SqL K H p xs) (hr : RepL K B xs (l.map enc))
    (J : S → L2.St → Hp → Prop) (h0 : J s0 σ H) (hl : ∀ s σ' H', J s σ' H' → SqL K H' p xs)
    (hb : ∀ (N : L2.St → Hp → Prop) (T : Fl S β → Prop) (x : Tp2 Int α) u s σ' H', J s σ' H' → Rep K B u (enc x.b) → (∀ s' σ2 H2, J s' σ2 H2 → T (.nx s') → N σ2 H2) → (∀ r, T (.rt r) → P r) → (∀ s' σ2 H2, J s' σ2 H2 → T (.bk s') → D'.nx σ2 H2) → Post (f x s) T R →
      NewT [.int x.a, u] H' fun v H1 => g v σ' H1 fun σ2 H2 => tb { D' with nx := N, ct := N, bk := D'.nx } σ2 H2)
    (hd : ∀ s σ' H', J s σ' H' → Post (k s) P R → D'.nx σ' H') : En K [.ref p] g tb D' σ H := by
  refine ⟨p, xs, rfl, hs, for_it (n := xs.length) walk_enum (fun i σ' H' => ∃ s, J s σ' H' ∧ Post (forR ((enumL l).drop i) s f) (fun a => Post (afterR k a) P R) R) ⟨s0, h0, hP.bind⟩ (fun i σ' H' _ ⟨s, j, _⟩ => hl s σ' H' j) ?_ ?_⟩
  · rintro i v σ' H' H2 hi ⟨s, j, q⟩ ⟨T, y1, y2, rfl, hT, rfl, h1, h2⟩
    cases Option.some.inj h1
    have hll : xs.length = l.length := by rw [hr.length, List.length_map]
    have hil : i < l.length := by omega
    have hx : (enumL l)[i]? = some ⟨(i : Int), l[i]⟩ := by
      unfold enumL
      rw [List.getElem?_mapIdx, List.getElem?_eq_getElem hil]
      rfl
    obtain ⟨u, hu, ru⟩ := hr.get (i := i) (d := enc l[i]) (by rw [List.getElem?_map, List.getElem?_eq_getElem hil]; rfl)
    have h2 : xs[i]? = some y2 := h2
    rw [h2] at hu; cases hu
    exact (hb _ _ ⟨(i : Int), l[i]⟩ y2 s σ' H' j ru (fun s' σ2 H2 j2 t2 => ⟨s', j2, t2⟩) (fun r t2 => (t2 : Post (.ok r) P R).ok) (fun s' σ2 H2 j2 t2 => hd s' σ2 H2 j2 t2) (q.turn hx)).2 T hT
  · rintro σ' H' ⟨s, j, q⟩
    exact hd s σ' H' j (q.forN (by unfold enumL; rw [List.length_mapIdx, hr.length, List.length_map]; exact Nat.le_refl _))
end
end Y

set_option Elab.async false
set_option linter.all false
set_option maxRecDepth 100000
set_option maxHeartbeats 4000000
namespace Y
open PySem PySem.Spec PyProof.Rows
open L2
/-! # a try whose clauses may each have a name -/
/-- a clause: what it names, the slot of its name, its suite's reading -/
structure Cl where
  c : Value
  nm : Option Nat
  ts : Addr → Value → Option Addr → TS
def Cl.ends (k : Cl) (D : Ends) : Ends := match k.nm with
  | none => D
  | some i => ⟨fun σ H => D.nx (σ.set i none) H, D.rt, fun σ H => D.bk (σ.set i none) H, fun σ H => D.ct (σ.set i none) H⟩
def Cl.slots (k : Cl) (σ : L2.St) (a : Addr) : L2.St := match k.nm with | none => σ | some i => σ.set i (some (.ref a))
def wMix (K : PySem.W.Frag) (Wout : WX) (D : Ends) : List Cl → WX
  | [] => Wout
  | k :: r => fun cls d σ H => ∃ b, PySem.W.exmOne K cls k.c = some b ∧ (b = true → ∀ a, H a = none → k.ts a cls d (k.ends D) (k.slots σ a) H) ∧ (b = false → wMix K Wout D r cls d σ H)
abbrev SuOk (X : Cx) (b₀ : Stmt) (su : List Stmt) (ts : Addr → Value → Option Addr → TS) : Prop :=
  ∀ (a : Addr) (oe : Obj) (cls : Value) (d : Option Addr) (pn : List (Addr × Obj)), Zc cls d oe → (∃ vs, oe.data = .fields vs) → PSs (X.suite a ((a, oe) :: pn)) (b₀ :: su) (ts a cls d)
inductive Mix (X : Cx) : List ExceptHandler → List Cl → Prop
  | nil : Mix X [] []
  | plain {x : Str} {c : Value} {ts : Addr → Value → Option Addr → TS} {b₀ : Stmt} {su : List Stmt} {p q : Pos} {hs : List ExceptHandler} {ks : List Cl}
      (hc : Names X x c) (hsu : SuOk X b₀ su ts) (r : Mix X hs ks) : Mix X (.ExceptHandler (some (.Name x p)) none (b₀ :: su) q :: hs) (⟨c, none, ts⟩ :: ks)
  | named {x n : Str} {i : Nat} {c : Value} {ts : Addr → Value → Option Addr → TS} {b₀ : Stmt} {su : List Stmt} {p q : Pos} {hs : List ExceptHandler} {ks : List Cl}
      (hN : X.N.Nodup) (hi : X.N[i]? = some n) (hl : X.env.kindOf n = some .local) (hc : Names X x c) (hsu : SuOk X b₀ su ts) (r : Mix X hs ks) : Mix X (.ExceptHandler (some (.Name x p)) (some n) (b₀ :: su) q :: hs) (⟨c, some i, ts⟩ :: ks)
/-- the exception is in flight here: what was known ahead of it -/
structure Fly (X : Cx) (a : Addr) (B : Heap) (sI s1 : Shared) (pins : List (Addr × Obj)) (σ : L2.St) (H : Hp) (cls : Value) (d : Option Addr) (h : Heap) : Prop where
  J : Inv X pins σ H sI
  nb : ∀ b o, sI.heap.get? b = some o → b ∉ frs X.stack → B.get? b = some o
  up : sI.heap.UpToSlots h
  na : H a = none
  os : s1.os = sI.os
  ag : AllBare s1.gens
  fl : HandSPX.FlyingZ B (X.env :: X.outer) a (Zc cls d) h
section
variable {X : Cx} {a : Addr} {B : Heap} {sI s1 : Shared} {pins : List (Addr × Obj)} {σ : L2.St} {H : Hp} {cls : Value} {d : Option Addr} {h : Heap}
theorem Fly.inv (F : Fly X a B sI s1 pins σ H cls d h) : Inv X pins σ H { s1 with heap := h } := F.J.landed F.nb F.fl.1 F.up F.os F.ag
theorem Fly.apart (F : Fly X a B sI s1 pins σ H cls d h) (hf : X.env.frame = some X.env.locals) (hs : X.stack = X.env :: X.outer) : a ≠ X.env.locals ∧ a ∉ X.fs := by
  obtain ⟨oe, vs, he, hz, hd⟩ := F.fl.there
  have key : ∀ e ∈ X.env :: X.outer, e.frame ≠ some a := fun e me q => by
    obtain ⟨_, o, ho, hn⟩ := F.fl.2.2.1.mem (List.mem_filterMap.mpr ⟨e, me, q⟩)
    rw [he] at ho
    cases ho
    exact hn _ hd
  exact ⟨fun z => key X.env List.mem_cons_self (by rw [hf, z]), fun m => by
    obtain ⟨e, me, q⟩ := List.mem_filterMap.mp m
    exact key e (List.mem_cons_of_mem _ me) q⟩
end
section
variable {X : Cx} {body : List Stmt} {h₀ : ExceptHandler} {hds : List ExceptHandler} {ks : List Cl} {pos : Pos} {tb : WX → TS} {Wout : WX}
/-- none of the clauses is right: it goes on -/
theorem fly_on {a : Addr} {B : Heap} {sI s1 : Shared} {pins : List (Addr × Obj)} {σ : L2.St} {H : Hp} {cls : Value} {d : Option Addr} {h : Heap} {Q : Flow → Shared → Prop} (hs : X.stack = X.env :: X.outer) (hf : X.env.frame = some X.env.locals) (tk : Takes X Wout)
    (F : Fly X a B sI s1 pins σ H cls d h) (w : Wout cls d σ H) : wpAny (model X.prog X.w) X.A (handleBy (.ref a) X.env []) Q X.xe { s1 with heap := h } := by
  apply wpAny_handleBy_nil
  have fl := F.fl
  obtain ⟨_, _, _, oe, vs, T, oT, tsl, he, hz, hd, h1, hr⟩ := fl
  have up1 : wpAny (model X.prog X.w) X.A (setFlight (.ref a) X.env.frame) (fun _ z => wpAny (model X.prog X.w) X.A (throw (.ref a) : Sem Flow) Q X.xe z) X.xe { s1 with heap := h } := by
    rw [hf]
    apply HandSPX.setFlight_upZ F.fl
    intro k hk uk
    apply wpAny_throw
    exact tk _ _ ⟨a, B, sI, pins, σ, H, cls, d, rfl, F.J, F.nb, F.up.trans uk, .inr (.inr (by rw [hs]; exact hk)), F.na, F.os, F.ag, w⟩
  unfold PySem.passOn
  apply wpAny_bind
  apply wpAny_field he hd h1
  rw [if_neg (show ¬ ((Value.ref T == Value.none) = true) from by simp)]
  first
    | exact wpAny_bind (wpAny_pure (wpAny_bind up1))
    | exact wpAny_bind up1
theorem fly_mix {a : Addr} {B : Heap} {sI s1 : Shared} {pins : List (Addr × Obj)} {σ : L2.St} {H : Hp} {cls : Value} {d : Option Addr} {h : Heap} {D : Ends} (hs : X.stack = X.env :: X.outer) (hf : X.env.frame = some X.env.locals) (tk : Takes X Wout) (ok : X.Ok)
    (F : Fly X a B sI s1 pins σ H cls d h) : ∀ {hds : List ExceptHandler} {ks : List Cl}, Mix X hds ks → wMix X.K Wout D ks cls d σ H → wpAny (model X.prog X.w) X.A (handleBy (.ref a) X.env hds) (SP X pins D) X.xe { s1 with heap := h } := by
  intro hds ks M
  obtain ⟨oe, vs, he, hz, hd⟩ := F.fl.there
  obtain ⟨nL, nF⟩ := F.apart hf hs
  have S := F.inv.suite he hd F.na nL nF
  have LT : PySem.W.Looks (model X.prog X.w) h (typeOf (.ref a)) cls := fun A Q E s k q => wpAny_typeOf_ref (k _ _ he) (by rw [hz.1]; exact q)
  have named : ∀ {x : Str} {c : Value} {np : Pos}, Names X x c → ∀ {Q E : Value → Shared → Prop}, Q c { s1 with heap := h } → wpAny (model X.prog X.w) (X.A.mark (some (.ref a))) (eval (.Name x np) X.env) Q E { s1 with heap := h } := by
    intro x c np hc Q E q
    rcases hc with ⟨g, db, g2 | ⟨g2, g3, g4⟩⟩
    · exact ld_glob (X := X.suite a ((a, oe) :: (X.pn ++ pins))) S g g2 q db
    · exact ld_blt (X := X.suite a ((a, oe) :: (X.pn ++ pins))) S g g2 g3 q g4 db
  induction M with
  | nil => exact fun w => fly_on hs hf tk F w
  | @plain x c ts b₀ su p q hs' ks' hc hsu r ih =>
    rintro ⟨b, hb, yes, no⟩
    apply wpAny_handleBy_cons (codeAny_handlers_test ?_) (by intro z; cases z)
    apply named hc
    apply (PySem.W.exm_one (M := model X.prog X.w) F.inv.kIn LT hb).here
    cases b
    · exact ih (no rfl)
    · apply codeAny_handlers_suite
      apply HandSPX.lands_againZ F.fl
      intro k fk uk
      have F' : Fly X a B sI s1 pins σ H cls d k := ⟨F.J, F.nb, F.up.trans uk, F.na, F.os, F.ag, fk⟩
      obtain ⟨oe', vs', he', hz', hd'⟩ := fk.there
      have S' := F'.inv.suite he' hd' F.na nL nF
      apply wpAny_mono ((hsu a oe' cls d (X.pn ++ pins) hz' ⟨_, hd'⟩).run [] _ _ H _ S' (yes rfl a F.na)) ?_ (fun _ _ z => z.elim)
      intro f t ht
      cases f <;> obtain ⟨σ6, ht⟩ := ht
      case ret => obtain ⟨σ7, H7, S7, r7, q7⟩ := ht; exact ⟨_, _, _, S7.unsuite ok, r7, q7⟩
      all_goals (obtain ⟨H6, S6, q6⟩ := ht; exact ⟨_, _, S6.unsuite ok, q6⟩)
  | @named x n i c ts b₀ su p q hs' ks' hN hi hl hc hsu r ih =>
    rintro ⟨b, hb, yes, no⟩
    apply wpAny_handleBy_cons (codeAny_handlers_test ?_) (by intro z; cases z)
    apply named hc
    apply (PySem.W.exm_one (M := model X.prog X.w) F.inv.kIn LT hb).here
    cases b
    · exact ih (no rfl)
    · apply codeAny_handlers_suite_as
      apply HandSPX.lands_againZ F.fl
      intro k fk uk
      have F' : Fly X a B sI s1 pins σ H cls d k := ⟨F.J, F.nb, F.up.trans uk, F.na, F.os, F.ag, fk⟩
      obtain ⟨oe', vs', he', hz', hd'⟩ := fk.there
      have S' := F'.inv.suite he' hd' F.na nL nF
      have hx : Loc X.env.scope n := .inl hl
      refine store_ok (X := X.suite a ((a, oe') :: (X.pn ++ pins))) (v := .ref a) S' hN hi hx rfl (fun t2 T2 => ?_) (.inr hl)
      apply wpAny_mono ((hsu a oe' cls d (X.pn ++ pins) hz' ⟨_, hd'⟩).run [] t2 _ H _ T2 (yes rfl a F.na)) ?_ (fun _ _ z => z.elim)
      intro f t ht
      have leave : ∀ {σ6 : L2.St} {H6 : Hp} {Q : Shared → Prop}, Inv (X.suite a ((a, oe') :: (X.pn ++ pins))) [] σ6 H6 t → (∀ t7, Inv X pins (σ6.set i none) H6 t7 → Q t7) →
          wpAny (model X.prog X.w) X.A (do bindName X.env n .none; unbindBehindTheSuite X.env n q) (fun _ t7 => Q t7) X.xe t := fun S6 hq => gone_ok (S6.unsuite ok) hN hi hl hq
      cases f <;> obtain ⟨σ6, ht⟩ := ht
      case ret => obtain ⟨σ7, H7, S7, r7, q7⟩ := ht; exact leave S7 fun t7 J7 => ⟨_, _, _, J7, r7, q7⟩
      all_goals (obtain ⟨H6, S6, q6⟩ := ht; exact leave S6 fun t7 J7 => ⟨_, _, J7, q6⟩)
def tTryM (K : PySem.W.Frag) (ks : List Cl) (Wout : WX) (tb : WX → TS) : TS := fun D σ H => tb (wMix K Wout D ks) D σ H
theorem ps_tryM {K : PySem.W.Frag} (hs : X.stack = X.env :: X.outer) (hf : X.env.frame = some X.env.locals) (tk : Takes X Wout)
    (hb : ∀ (W : WX) (pn : List (Addr × Obj)) (xe : Value → Shared → Prop), Takes (X.tr pn xe) W → PassesOwn (model X.prog X.w) X.A X.env xe → PSs (X.tr pn xe) body (tb W))
    (M : Mix X (h₀ :: hds) ks) (hK : X.K = K := by rfl) : PS X (.Try body (h₀ :: hds) [] [] pos) (tTryM K ks Wout tb) := by
  subst hK
  refine ⟨fun pins s σ H D I h => ?_⟩
  have ok := I.ok
  have hfr : X.A.frames = some (X.env :: X.outer) := by rw [ok.frames, hs]
  apply wpAny_Try_except
  refine wpAny_mono ((hb (wMix X.K Wout D ks) (X.pn ++ pins) _ ?_ PassesOwn.looking).run [] s σ H D (I.toTry _) h) ?_ (fun e t he => he)
  · intro u t xx
    obtain ⟨a, B, sI, pins', σ', H', cls, d, rfl, J', nb, up, sky, na, os, ag, w⟩ := xx
    rw [show (X.tr (X.pn ++ pins) _).stack = X.env :: X.outer from hs] at sky
    refine Sky.land Zc.steady hfr hf sky fun k fk uk => ?_
    exact fly_mix hs hf tk ok (D := D) ⟨J'.ofTry ok, nb, up.trans uk, na, os, ag, fk⟩ M w
  · intro f t ht
    cases f
    case ret => obtain ⟨v, σ', H', J', r, q⟩ := ht; exact ⟨v, σ', H', J'.ofTry ok, r, q⟩
    case next => obtain ⟨σ', H', J', q⟩ := ht; exact wpAny_execs_nil ⟨σ', H', J'.ofTry ok, q⟩
    all_goals (obtain ⟨σ', H', J', q⟩ := ht; exact ⟨σ', H', J'.ofTry ok, q⟩)
end

/-! ## isinstance of the exception, several classes -/
def rIsET (K : PySem.W.Frag) (D a : Addr) : List V → Hp → VK → Prop := fun xs H Q => ∃ (tp : Addr) (cs : List V) (us : List Value) (b : Bool), xs = [.ref a, .ref tp] ∧ H tp = some (.tup cs) ∧ Paired ClsV cs us ∧ PySem.W.kitAny K (.ref D) us = some b ∧ Q (.bl b) H
theorem call_isET {X : Cx} {a D : Addr} {oe : Obj} {pn : List (Addr × Obj)} (C : ExcC X.K D) (hz : Zc (.ref D) none oe) (hf : ∃ vs, oe.data = .fields vs) : CallR (X.suite a ((a, oe) :: pn)) (.builtin "isinstance") (rIsET X.K D a) := by
  rintro pins s σ H _ us Q I r ⟨tp, cs, ws, b, rfl, hT, k, e, q⟩
  obtain ⟨u1, u2, rfl, r1, r2⟩ := r.two
  cases (show u1 = Value.ref a from r1)
  cases (show u2 = Value.ref tp from r2)
  have hget := (I.pin (a, oe) (List.mem_append.mpr (.inl List.mem_cons_self))).1
  obtain ⟨vs, hv⟩ := hf
  obtain ⟨h1, h2⟩ := hz
  obtain ⟨c0, d0, dt0, sl0⟩ := oe
  dsimp only at h1 h2 hv
  subst h1 h2 hv
  have J : PySem.W.InstAt s.heap a ⟨.ref D, none, .fields vs, sl0⟩ D none := ⟨hget, rfl, rfl, trivial⟩
  obtain ⟨_, its, rv, o, g1, g2, n, g3⟩ := (show ObjOk X.prog X.w H s.heap tp (.tup cs) from I.hok tp _ hT)
  have e3 := ClsV.all k rv
  subst e3
  obtain ⟨oc, od, dt, sl⟩ := o
  dsimp only at g2 g3
  subst g2 g3
  exact PySem.W.kia_tup (PySem.W.handS_kitx_exc C.hg C.hk C.hs C.hd C.ha C.hn C.ht C.hm) I.kIn J g1 e (fun z => nomatch z) fun tk => ⟨.bl b, H, I.kept (t' := tk) fun _ _ z => z, rfl, q⟩
def tIsET (K : PySem.W.Frag) (a : Addr) (cls : Value) (d : Option Addr) (targs : TA) : TE := fun σ H Q => ∃ Dc, cls = .ref Dc ∧ d = none ∧ ExcC K Dc ∧ tCB (rIsET K Dc a) targs σ H Q
section
variable {K : PySem.W.Frag} {σ : L2.St} {B H : Hp} {Q : VK} {D' : Ends} {Wout : WX} {k : Cl} {r : List Cl} {mg : Str → Option Value} {nm : Str}
theorem pe_isET {X : Cx} {e : Expr} {a : Addr} {cls : Value} {d : Option Addr} {targs : TA} (hK : X.K = K) (h : ∀ Dc, cls = .ref Dc → d = none → ExcC K Dc → PE X e (tCB (rIsET K Dc a) targs)) : PE X e (tIsET K a cls d targs) :=
  ⟨fun pins s σ H Q I q => by
    obtain ⟨Dc, e1, e2, ec, q⟩ := q
    exact (h Dc e1 e2 ec).run pins s σ H Q I q⟩
theorem h_isET {a C : Addr} {targs : TA} (T : ExcT K mg nm C) (h : targs σ H fun vs H1 => rIsET K C a vs H1 Q) : tIsET K a (.ref C) none targs σ H Q := ⟨C, rfl, rfl, T.ec, h⟩
theorem kitA_nil {t : Value} : PySem.W.kitAny K t [] = some false := rfl
theorem kitA_f {t c : Value} {r : List Value} {b : Bool} (h : PySem.W.kitOne K t c = some false) (hr : PySem.W.kitAny K t r = some b) : PySem.W.kitAny K t (c :: r) = some b := by
  unfold PySem.W.kitAny
  rw [h]
  exact hr
theorem kitA_t {t c : Value} {r : List Value} (h : PySem.W.kitOne K t c = some true) : PySem.W.kitAny K t (c :: r) = some true := by
  unfold PySem.W.kitAny
  rw [h]
/-- a tuple of classes that was just laid -/
theorem h_clsTup {xs : List V} (w : Ex B H) (hn : xs.length ≤ sizeLine) (h : ∀ p, Stp [] B H B (upd H p (.tup xs)) → Q (.ref p) (upd H p (.tup xs))) : NewT xs H Q := ⟨hn, fun p hp => h p (Stp.newM w hp)⟩
theorem h_isETR {a C tp : Addr} {xs : List V} {us : List Value} {b : Bool} (hp : Paired ClsV xs us) (e : PySem.W.kitAny K (.ref C) us = some b) (q : Q (.bl b) (upd H tp (.tup xs))) : rIsET K C a [.ref a, .ref tp] (upd H tp (.tup xs)) Q := ⟨tp, xs, us, b, rfl, upd_same, hp, e, q⟩
/-- the clause meets the error -/
theorem h_mixHitA {C S' : Addr} {i : Nat} {ts : Addr → Value → Option Addr → TS} (T : ExcT K mg nm S') (hs : PySem.W.subIn K (.ref C) (.ref S') = some true)
    (h : ∀ a, H a = none → ts a (.ref C) none ⟨fun σ H => D'.nx (σ.set i none) H, D'.rt, fun σ H => D'.bk (σ.set i none) H, fun σ H => D'.ct (σ.set i none) H⟩ (σ.set i (some (.ref a))) H) : wMix K Wout D' (⟨.ref S', some i, ts⟩ :: r) (.ref C) none σ H :=
  ⟨true, T.exm hs, fun _ a ha => h a ha, fun q => nomatch q⟩
theorem h_mixHitO {C S' : Addr} {ts : Addr → Value → Option Addr → TS} (T : ExcT K mg nm S') (hs : PySem.W.subIn K (.ref C) (.ref S') = some true)
    (h : ∀ a, H a = none → ts a (.ref C) none D' σ H) : wMix K Wout D' (⟨.ref S', none, ts⟩ :: r) (.ref C) none σ H :=
  ⟨true, T.exm hs, fun _ a ha => h a ha, fun q => nomatch q⟩
theorem h_mixSkip {C S' : Addr} (hc : k.c = .ref S') (T : ExcT K mg nm S') (hs : PySem.W.subIn K (.ref C) (.ref S') = some false) (h : wMix K Wout D' r (.ref C) none σ H) : wMix K Wout D' (k :: r) (.ref C) none σ H :=
  ⟨false, by rw [hc]; exact T.exm hs, (fun q => nomatch q), fun _ => h⟩
theorem h_tryM {ks : List Cl} {tb : WX → TS} (h : tb (wMix K Wout D' ks) D' σ H) : tTryM K ks Wout tb D' σ H := h
end

/-! ## a list of lists of our own -/
def Raw (B H : Hp) (p : Addr) (xs : List V) : Prop := B p = none ∧ H p = some (.lst xs)
section
variable {K : PySem.W.Frag} {B B' H H' : Hp} {W : List Addr} {p q : Addr} {xs : List V} {Q : VK} {d e : D} {v u : V}
theorem Raw.step (m : Raw B H p xs) (s : Stp W B H B' H') (h : p ∉ W) : Raw B' H' p xs := ⟨s.nw p _ m.1 m.2, s.fr p _ h m.2⟩
theorem Raw.ne (m : Raw B H p xs) (h : H q = none) : p ≠ q := ne_of_none m.2 h
theorem Raw.kp {r : Addr} (m : Raw B H q xs) (_ : Ex B B') (k : ∀ q, q ≠ r → B q = none → B' q = none) (n : q ≠ r) : Raw B' H q xs := ⟨k q n m.1, m.2⟩
theorem Raw.sq (m : Raw B H p xs) : SqL K H p xs := SqL.of m.2
theorem h_newRaw (w : Ex B H) (hn : xs.length ≤ sizeLine) (h : ∀ p H', H p = none → Stp [] B H B H' → Raw B H' p xs → Q (.ref p) H') : NewL xs H Q := ⟨hn, fun p hp => h p _ hp (Stp.newM w hp) ⟨w.none hp, upd_same⟩⟩
theorem Cmp.pair (s : SqL K H p [v, u]) (h : Cmp K H v d) (h' : Cmp K H u e) : Cmp K H (.ref p) (.lst [d, e]) := fun f => by
  have f' : (flatD d && (flatD e && true)) = true := f
  simp only [Bool.and_true, Bool.and_eq_true] at f'
  exact .lst s (.cons (h f'.1) (.cons (h' f'.2) .nil))
end
end Y

/-! # a local name that holds a def -/
namespace Y
open PySem PySem.Spec PyProof.Rows
open L2
section
variable {X : Cx} {CX : CXT} {k : Nat} {f : Addr} {fd : FuncData} {ps : List Str} {sp : Sp} {dvs : List V} {ds : List Value} {E : L2.St → XK} {x : Str} {p pos : Pos} {e : Expr} {es : List Expr} {t tl : TA}
def tCallLS (i : Nat) (f : Addr) (sp : Sp) (dvs : List V) (E : L2.St → XK) (t : TA) : TE := fun σ H Q => σ[i]? = some (some (.ref f)) ∧ t σ H fun vs H1 => sp (vs ++ dvs) H1 Q (E σ)
theorem atOf {E : XK} (h : Passes CX X E) : ∀ σ, PassesAt CX X σ ((fun _ : L2.St => E) σ) := fun σ pins H s e s' I c => h pins σ H s e s' I c
theorem pe_callLS (i : Nat) (F : FnOk X.prog X.w X.K X.mg X.base CX k f fd ps sp) (hr : Room k X.A) (hk : PySem.W.keepIn X.K (.ref f) = true) (hb : L2.Binds X.K fd ps ds) (hd : Vals dvs ds) (hx : ∀ σ, PassesAt CX X σ (E σ)) (ha : PA X (e :: es) t)
    (hN : X.N[i]? = some x := by rfl) (hv : Vis X.env.scope x := by first | exact Or.inl rfl | exact Or.inr (Or.inl rfl) | exact Or.inr (Or.inr rfl))
    (hdb : (x == ("__debug__" : Str)) = false := by decide) (hcd : (x == ("__classdict__" : Str)) = false := by decide)
    (he : starEach (e :: es) X.env = (false, eval e X.env) :: starEach es X.env := by rfl) (hpl : (backTo pos (starEach es X.env)).any (·.1) = false := by rfl) : PE X (.Call (.Name x p) (e :: es) [] pos) (tCallLS i f sp dvs E t) := by
  refine ⟨fun pins s σ H Q I h => ?_⟩
  obtain ⟨hs, ht⟩ := h
  refine wpAny_Call_Name_kw (thn ((pe_var (pos := p) hN hv hdb hcd).run pins s σ H (fun v H1 => v = .ref f ∧ H1 = H) I ⟨.ref f, hs, rfl, rfl⟩) fun u s1 ⟨v, H1, I1, r1, q1⟩ => ?_)
  obtain ⟨rfl, rfl⟩ := q1
  cases r1
  refine PySem.W.callWith_K (h₀ := X.base) I.ok.mod.kin hk (thn (ha.run pos pins s1 σ _ _ I1 ht) fun us s2 ⟨vs, H2, I2, r, q⟩ => ⟨I2.kIn, ?_⟩) he hpl
  exact run_fnSD F hr hb hd (hx σ) I2 r q
theorem h_callLS {i : Nat} {σ : L2.St} {H : Hp} {Q : VK} (hs : σ[i]? = some (some (.ref f))) (h : tl σ H fun vs H1 => sp (vs ++ dvs) H1 Q (E σ)) : tCallLS i f sp dvs E tl σ H Q := ⟨hs, h⟩
end
end Y

set_option Elab.async false
set_option linter.all false
set_option maxRecDepth 100000
set_option maxHeartbeats 4000000
namespace Y
open PySem PySem.Spec PyProof.Rows
open L2
/-! # instances of the text's classes that stay as they are -/
/-- a class of the text, a name of the module -/
structure KI (K : PySem.W.Frag) (mg : Str → Option Value) (nm : Str) (C : Addr) : Prop extends KC K nm C where
  g : mg nm = some (.ref C)
  ty : PySem.W.typeIn K (.ref C) = some (.type "type")
  is : PySem.W.isClsIn K C = true
  self : PySem.W.subIn K (.ref C) (.ref C) = some true
theorem bt_of {K : PySem.W.Frag} {C : Addr} (a : PySem.W.subIn K (.ref C) (.type "bool") = some false) (b : PySem.W.subIn K (.ref C) (.type "int") = some false) (c : PySem.W.subIn K (.ref C) (.type "str") = some false)
    (d : PySem.W.subIn K (.ref C) (.type "list") = some false) (e : PySem.W.subIn K (.ref C) (.type "tuple") = some false) (f : PySem.W.subIn K (.ref C) (.type "dict") = some false) :
    ∀ t ∈ ["bool", "int", "str", "list", "tuple", "dict"], PySem.W.subIn K (.ref C) (.type t) = some false := by
  intro t ht
  simp only [List.mem_cons, List.not_mem_nil, or_false] at ht
  rcases ht with rfl | rfl | rfl | rfl | rfl | rfl
  · exact a
  · exact b
  · exact c
  · exact d
  · exact e
  · exact f
section
variable {K : PySem.W.Frag} {mg : Str → Option Value} {nm nm' f m : Str} {C C' C2 p dx : Addr} {B H B' H' : Hp} {fs : List (Str × V)} {ds : List (Str × D)} {d : D} {v : V} {Q : VK} {b : Bool} {σ : L2.St} {ta : TE} {tab : List (Str × Bool)}
theorem KC.uniq (k : KC K nm C) (k' : KC K nm C') : C = C' := by
  have := k.a.symm.trans k'.a
  cases this
  rfl
theorem KI.kit (T : KI K mg nm C) (h : PySem.W.subIn K (.ref C2) (.ref C) = some b) : PySem.W.kitOne K (.ref C2) (.ref C) = some b := by
  unfold PySem.W.kitOne
  by_cases e : (Value.ref C2 == Value.ref C) = true
  · rw [if_pos e]
    have e2 : C2 = C := Value.ref.inj (beq_iff_eq.mp e)
    subst e2
    exact T.self.symm.trans h
  · rw [if_neg e]
    have h2 : (PySem.W.clsIn K C).isSome = true := T.is
    show (if ((PySem.W.clsIn K C).isSome && PySem.W.typeIn K (.ref C) == some (.type "type")) = true then PySem.W.subIn K (.ref C2) (.ref C) else none) = some b
    rw [if_pos (by rw [h2, T.ty] <;> rfl)]
    exact h
theorem sub_bt (C : Addr) : ∀ s ∈ ["NoneType", "bool", "int", "str", "list", "tuple", "dict"], PySem.W.subIn K (.type s) (.ref C) = some false := by
  intro s hs
  simp only [List.mem_cons, List.not_mem_nil, or_false] at hs
  rcases hs with rfl | rfl | rfl | rfl | rfl | rfl | rfl <;> rfl
theorem KI.kitB (T : KI K mg nm C) {s : String} (hs : s ∈ ["NoneType", "bool", "int", "str", "list", "tuple", "dict"]) : PySem.W.kitOne K (.type s) (.ref C) = some false := by
  unfold PySem.W.kitOne
  rw [if_neg (by simp)]
  have h2 : (PySem.W.clsIn K C).isSome = true := T.is
  show (if ((PySem.W.clsIn K C).isSome && PySem.W.typeIn K (.ref C) == some (.type "type")) = true then PySem.W.subIn K (.type s) (.ref C) else none) = some false
  rw [if_pos (by rw [h2, T.ty] <;> rfl)]
  exact sub_bt C s hs
/-- isinstance(x, an own class): the classes that are known, and whether each is under it -/
def isCR (tab : List (Str × Bool)) (d : D) : Res Bool := match d with
  | .obj nm _ => (match tab.lookup nm with | some b => .ok b | none => .stuck)
  | _ => .ok false
theorem Post.isC {β : Type} {k : Bool → Res β} {P : β → Prop} {R : Err → Prop} (h : Post ((isCR tab d).bind k) P R) : ∃ b, isCR tab d = .ok b ∧ Post (k b) P R := by
  cases e : isCR tab d with
  | ok b => rw [e] at h; exact ⟨b, rfl, h⟩
  | err x =>
    cases d with
    | obj nm ds =>
      have e' : (match tab.lookup nm with | Option.some b => Res.ok b | Option.none => .stuck) = Res.err x := e
      cases q : tab.lookup nm <;> rw [q] at e' <;> exact nomatch e'
    | _ => exact nomatch e
  | stuck => rw [e] at h; exact h.elim
def TabOk (K : PySem.W.Frag) (C : Addr) : List (Str × Bool) → Prop
  | [] => True
  | (nm, b) :: r => (∃ C2, KC K nm C2 ∧ PySem.W.subIn K (.ref C2) (.ref C) = some b) ∧ TabOk K C r
theorem TabOk.get : ∀ {tab : List (Str × Bool)}, TabOk K C tab → tab.lookup nm = some b → ∃ C2, KC K nm C2 ∧ PySem.W.subIn K (.ref C2) (.ref C) = some b
  | [], _, e => nomatch e
  | (x, y) :: r, h, e => by
    have e' : (match nm == x with | true => some y | false => r.lookup nm) = some b := e
    by_cases q : (nm == x) = true
    · rw [q] at e'
      cases e'
      rw [beq_iff_eq.mp q]
      exact h.1
    · rw [Bool.eq_false_iff.mpr q] at e'
      exact TabOk.get h.2 e'
theorem h_isK (w : Ex B H) (r : Rep K B v d) (T : KI K mg nm C) (tb : TabOk K C tab) (e : isCR tab d = .ok b) (q : Q (.bl b) H) : rIsi K [v, .ref C] H Q := by
  by_cases hd : isObjD d = true
  · cases r with
    | @obj p C' dx nm' fs ds h k r =>
      have e' : (match tab.lookup nm' with | some b => Res.ok b | none => .stuck) = Res.ok b := e
      cases l : tab.lookup nm' with
      | none => rw [l] at e'; exact nomatch e'
      | some y =>
        rw [l] at e'
        cases e'
        obtain ⟨C2, k2, hs⟩ := tb.get l
        rw [k2.uniq k] at hs
        exact ⟨_, .ref C, .ref C', .ref C, b, rfl, .own C, k.tyx (w _ _ h), T.kit hs, q⟩
    | _ => exact nomatch hd
  · have hd := Bool.eq_false_iff.mpr hd
    have eb : b = false := by
      cases d with
      | obj nm ds => exact nomatch hd
      | _ => cases e; rfl
    subst eb
    exact ⟨v, .ref C, _, .ref C, false, rfl, .own C, r.ty w hd, T.kitB (tyD_in d hd), q⟩
theorem RepF.get : ∀ {fs : List (Str × V)} {ds : List (Str × D)}, RepF K B fs ds → ds.lookup f = some d → ∃ v, fs.lookup f = some v ∧ Rep K B v d
  | _, _, .nil, e => nomatch e
  | _, _, @RepF.cons _ _ k v d' vs ds h t, e => by
    have e' : (match f == k with | true => some d' | false => ds.lookup f) = some d := e
    show ∃ u, (match f == k with | true => some v | false => vs.lookup f) = some u ∧ _
    cases q : f == k with
    | true =>
      rw [q] at e'
      cases e'
      exact ⟨v, rfl, h⟩
    | false =>
      rw [q] at e'
      exact RepF.get t e'
theorem RepF.none : ∀ {fs : List (Str × V)} {ds : List (Str × D)}, RepF K B fs ds → ds.lookup f = Option.none → fs.lookup f = Option.none
  | _, _, .nil, _ => rfl
  | _, _, @RepF.cons _ _ k v d' vs ds h t, e => by
    have e' : (match f == k with | true => some d' | false => ds.lookup f) = Option.none := e
    show (match f == k with | true => some v | false => vs.lookup f) = Option.none
    cases q : f == k with
    | true => rw [q] at e'; exact nomatch e'
    | false =>
      rw [q] at e'
      exact RepF.none t e'
theorem Rep.ins (w : Ex B H) (r : Rep K B v (.obj nm ds)) (T : KC K nm C) : ∃ p dx fs, v = .ref p ∧ H p = some (.ins C dx fs) ∧ RepF K B fs ds := by
  cases r with
  | @obj p C' dx _ fs _ h k r =>
    have e := T.uniq k
    subst e
    exact ⟨p, dx, fs, rfl, w _ _ h, r⟩
/-! ### a field -/
def Fld (K : PySem.W.Frag) (f : Str) (x : V) (H : Hp) (Q : VK) : Prop := ∃ a C dx fs v, x = .ref a ∧ H a = some (.ins C dx fs) ∧ Cls K C ∧ NoAttr K C f ∧ fs.lookup f = some v ∧ Q v H
theorem h_fldE (h : ta σ H fun x H1 => Fld K f x H1 Q) : tFld K ta f σ H Q := h
theorem h_fld (w : Ex B H) (r : Rep K B v (.obj nm ds)) (T : KC K nm C) (n : NoAttr K C f) (e : ds.lookup f = some d) (h : ∀ u, Rep K B u d → Q u H) : Fld K f v H Q := by
  obtain ⟨p, dx, fs, rfl, hp, rf⟩ := r.ins w T
  obtain ⟨u, hu, ru⟩ := rf.get e
  exact ⟨p, C, dx, fs, u, rfl, hp, T.c, n, hu, h u ru⟩
/-! ### C(..) -/
/-- an __init__ that lays these fields, in this order -/
def LaysOk (K : PySem.W.Frag) (C : Addr) : List Str → Prop
  | [] => True
  | f :: r => NoAttr K C f ∧ LaysOk K C r
def spInit (K : PySem.W.Frag) (ns : List Str) : Sp := fun vs H Q _ => ∃ (C p dx : Addr) (us : List V), vs = .ref p :: us ∧ us.length = ns.length ∧ H p = some (.ins C dx []) ∧ Cls K C ∧ LaysOk K C ns ∧ Q .non (upd H p (.ins C dx (ns.zip us)))
theorem h_made (w : Ex B H) (hp : H p = none) (hx : H dx = none) (ne : dx ≠ p) (T : KC K nm C) (r : RepF K B fs ds) (h : ∀ B' H', Stp [] B H B' H' → Rep K B' (.ref p) (.obj nm ds) → Q (.ref p) H') : Q (.ref p) (upd (upd (upd H dx (.own p)) p (.ins C dx [])) p (.ins C dx fs)) := by
  rw [upd_upd]
  have s1 : Stp [] B H (upd B dx (.own p)) (upd H dx (.own p)) := Stp.new w hx
  have hp' : (upd H dx (.own p)) p = none := by rw [upd_ne ne.symm]; exact hp
  have s2 : Stp [] (upd B dx (.own p)) (upd H dx (.own p)) (upd (upd B dx (.own p)) p (.ins C dx fs)) (upd (upd H dx (.own p)) p (.ins C dx fs)) := Stp.new s1.ok hp'
  exact h _ _ (s1.trans s2) (.obj upd_same T (r.mono (s1.trans s2).ex))
theorem h_make {ns : List Str} {E : XK} {us : List V} (hl : us.length = ns.length) (w : Ex B H) (T : KC K nm C) (lo : LaysOk K C ns) (r : RepF K B (ns.zip us) ds) (h : ∀ p B' H', Stp [] B H B' H' → Rep K B' (.ref p) (.obj nm ds) → Q (.ref p) H') :
    ∀ x dx, H x = none → H dx = none → dx ≠ x → spInit K ns (.ref x :: us) (upd (upd H dx (.own x)) x (.ins C dx [])) (fun v H2 => v = .non ∧ Q (.ref x) H2) E := fun x dx hx hdx ne =>
  ⟨C, x, dx, us, rfl, hl, upd_same, T.c, lo, rfl, h_made w hx hdx ne T r fun B' H' s rr => h x B' H' s rr⟩
end
/-! ### o.m(..) of one of several classes -/
structure MAlt (P : Program) (wo : World) (K : PySem.W.Frag) (mg : Str → Option Value) (base : Heap) (CX : CXT) (k : Nat) (m : Str) (C : Addr) (sp : Sp) : Prop where
  ex : ∃ (f : Addr) (fd : FuncData) (ps : List Str), Cls K C ∧ Meth K C m f ∧ FnOk P wo K mg base CX k f fd ps sp ∧ L2.Binds K fd ps []
def tMethP (A : Addr → Sp → Prop) (m : Str) (E : L2.St → XK) (ta : TE) (t : TA) : TE := fun σ H Q => ta σ H fun x H1 => ∃ a C dx fs sp, x = .ref a ∧ H1 a = some (.ins C dx fs) ∧ A C sp ∧ fs.lookup m = none ∧ t σ H1 fun vs H2 => sp (x :: vs) H2 Q (E σ)
section
variable {X : Cx} {CX : CXT} {k : Nat} {E : L2.St → XK} {m : Str} {pos apos : Pos} {e o : Expr} {es : List Expr} {ta : TE} {t : TA} {A : Addr → Sp → Prop}
theorem pe_methP {pl : Sem Bool} (he : PE X o ta) (hA : ∀ C sp, A C sp → MAlt X.prog X.w X.K X.mg X.base CX k m C sp) (hr : Room k X.A) (hx : ∀ σ, PassesAt CX X σ (E σ)) (ha : PA X (e :: es) t)
    (hst : starEach (e :: es) X.env = (false, eval e X.env) :: starEach es X.env := by rfl) (hpl : (backTo pos (starEach es X.env)).any (·.1) = false := by rfl)
    (ht : eval (.Call (.Attribute o m apos) (e :: es) [] pos) X.env = (do
      let ov ← eval o X.env
      standAt apos.atName
      let (f, first) ← holding [ov] (getMethod ov m pl)
      callWith pos f first (backTo pos (starEach (e :: es) X.env)) (backToKw pos (keywordEach [] X.env))) := by rfl) :
    PE X (.Call (.Attribute o m apos) (e :: es) [] pos) (tMethP A m E ta t) := by
  refine ⟨fun pins s σ H Q I h => ?_⟩
  refine PySem.W.methodCall_KW (pl := pl) (thn (he.run pins s σ H _ I h) fun u s1 ⟨x, H1, I1, rx, a, C, dx, fs, sp, ex, ea, hAC, l, q⟩ => ?_) ht
  subst ex
  obtain rfl : u = Value.ref a := rx
  obtain ⟨f, fd, ps, c, hm, F, hb⟩ := (hA C sp hAC).ex
  refine getmeth_ok I1 ea c hm l ?_
  refine PySem.W.callWith_K (first := [.ref a]) (h₀ := X.base) I.ok.mod.kin hm.kp (thn (ha.run pos pins s1 σ H1 _ I1 q) fun us s2 ⟨vs, H2, I2, r, q2⟩ => ⟨I2.kIn, ?_⟩) hst hpl
  exact run_fnSD (us := .ref a :: us) (vs := .ref a :: vs) (dvs := []) (ds := []) F hr hb .nil (hx σ) I2 (.cons rfl r) (by rw [List.append_nil]; exact q2)
theorem pe_methP0 {pl : Sem Bool} (he : PE X o ta) (hA : ∀ C sp, A C sp → MAlt X.prog X.w X.K X.mg X.base CX k m C sp) (hr : Room k X.A) (hx : ∀ σ, PassesAt CX X σ (E σ))
    (ht : eval (.Call (.Attribute o m apos) [] [] pos) X.env = (do
      let ov ← eval o X.env
      standAt apos.atName
      let (f, first) ← holding [ov] (getMethod ov m pl)
      callWith pos f first (backTo pos (starEach [] X.env)) (backToKw pos (keywordEach [] X.env))) := by rfl) :
    PE X (.Call (.Attribute o m apos) [] [] pos) (tMethP A m E ta tNil) := by
  refine ⟨fun pins s σ H Q I h => ?_⟩
  refine PySem.W.methodCall_KW (pl := pl) (thn (he.run pins s σ H _ I h) fun u s1 ⟨x, H1, I1, rx, a, C, dx, fs, sp, ex, ea, hAC, l, q⟩ => ?_) ht
  subst ex
  obtain rfl : u = Value.ref a := rx
  obtain ⟨f, fd, ps, c, hm, F, hb⟩ := (hA C sp hAC).ex
  refine getmeth_ok I1 ea c hm l ?_
  exact PySem.W.callWith_K0 (first := [.ref a]) I1.kIn hm.kp (run_fnSD (us := [.ref a]) (vs := [.ref a]) (dvs := []) (ds := []) F hr hb .nil (hx σ) I1 (.cons rfl .nil) (by rw [List.append_nil]; exact q))
end
section
variable {K : PySem.W.Frag} {σ : L2.St} {H : Hp} {Q : VK} {A : Addr → Sp → Prop} {m : Str} {E : L2.St → XK} {ta : TE} {t : TA} {C : Addr} {sp : Sp} {dvs : List V} {E0 : XK}
theorem h_methE (h : ta σ H fun x H1 => ∃ a C dx fs sp, x = .ref a ∧ H1 a = some (.ins C dx fs) ∧ A C sp ∧ fs.lookup m = none ∧ t σ H1 fun vs H2 => sp (x :: vs) H2 Q (E σ)) : tMethP A m E ta t σ H Q := h
theorem h_makeE (h : t σ H fun vs H1 => ∀ x dx, H1 x = none → H1 dx = none → dx ≠ x → sp (.ref x :: (vs ++ dvs)) (upd (upd H1 dx (.own x)) x (.ins C dx [])) (fun v H2 => v = .non ∧ Q (.ref x) H2) E0) : tMake C sp dvs E0 t σ H Q := h
theorem lk0 {α : Type} {f : Str} {d : α} {r : List (Str × α)} : List.lookup f ((f, d) :: r) = some d := by
  show (match f == f with | true => some d | false => r.lookup f) = some d
  rw [beq_self_eq_true]
theorem lkS {α : Type} {f g : Str} {d e : α} {r : List (Str × α)} (h : (f == g) = false) (t : List.lookup f r = some d) : List.lookup f ((g, e) :: r) = some d := by
  show (match f == g with | true => some e | false => r.lookup f) = some d
  rw [h]
  exact t
theorem lkN {α : Type} {f g : Str} {e : α} {r : List (Str × α)} (h : (f == g) = false) (t : List.lookup f r = none) : List.lookup f ((g, e) :: r) = none := by
  show (match f == g with | true => some e | false => r.lookup f) = none
  rw [h]
  exact t
theorem lkE {α : Type} {f : Str} : List.lookup f ([] : List (Str × α)) = none := rfl
theorem putS {f g : Str} {v u : V} {r q : List (Str × V)} (h : ¬ g = f) (e : putF f v r = q) : putF f v ((g, u) :: r) = (g, u) :: q := by
  show (if g = f then (g, v) :: r else (g, u) :: putF f v r) = _
  rw [if_neg h, e]
theorem putE {f : Str} {v : V} : putF f v [] = [(f, v)] := rfl
end
/-! ### C(.., k = v) -/
def tMakeB (C : Addr) (sp : Sp) (gV : List V → List V → List V) (E : XK) (t tk : TA) : TE := fun σ H Q => t σ H fun vs H1 => tk σ H1 fun zs H2 =>
  ∀ x dx, H2 x = none → H2 dx = none → dx ≠ x → sp (gV (.ref x :: vs) zs) (upd (upd H2 dx (.own x)) x (.ins C dx [])) (fun v H3 => v = .non ∧ Q (.ref x) H3) E
section
variable {X : Cx} {CX : CXT} {k : Nat} {f C : Addr} {fd : FuncData} {ps ks : List Str} {sp : Sp} {E : XK} {x : Str} {p pos : Pos} {e : Expr} {es : List Expr} {kws : List Keyword} {t tk : TA} {g : List Value → List Value → List Value} {gV : List V → List V → List V}
theorem run_makeB {pins : List (Addr × Obj)} {σ : L2.St} {H : Hp} {s : Shared} {Q : VK} {us ws : List Value} {vs zs : List V} (M : Mk X.K C f) (F : FnOk X.prog X.w X.K X.mg X.base CX k f fd ps sp) (hr : Room (k + 1) X.A) (hb : KBinds X.K fd ps ks g gV)
    (hx : Passes CX X E) (I : Inv X pins σ H s) (r : Vals vs us) (rz : Vals zs ws)
    (h : ∀ x dx, H x = none → H dx = none → dx ≠ x → sp (gV (.ref x :: vs) zs) (upd (upd H dx (.own x)) x (.ins C dx [])) (fun v H2 => v = .non ∧ Q (.ref x) H2) E) :
    wpAny (model X.prog X.w) X.A (call (.ref C) us (ks.zip ws)) (EP X pins σ Q) X.xe s := by
  have hq := h (s.heap.objs.size + 1) s.heap.objs.size (I.hok.fresh (Nat.le_succ _)) (I.hok.fresh (Nat.le_refl _)) (Nat.ne_of_lt (Nat.lt_succ_self _))
  have I2 := Inv.made (C := C) I
  have r1 : Vals (V.ref (s.heap.objs.size + 1) :: vs) (Value.ref (s.heap.objs.size + 1) :: us) := .cons rfl r
  have r2 := hb.rel r1 rz
  have hl : (g (Value.ref (s.heap.objs.size + 1) :: us) ws).length = ps.length := by rw [← r2.length]; exact F.len _ _ _ _ hq
  refine wpAny_call (make_map (f := f) I.kIn M.makes M.init (beq_iff_eq.mp M.fn) (codeAny_mono (F.run _ X.stack _ _ ⟨Value.ref (s.heap.objs.size + 1) :: us, ks.zip ws⟩ (g (Value.ref (s.heap.objs.size + 1) :: us) ws) _ _ E (hr.make C us (ks.zip ws))
    (I2.env0.make C us (ks.zip ws)) (hb.to _ (Value.ref (s.heap.objs.size + 1) :: us) ws I2.kIn hl) r2 hq) fun r s' hq' => ?_))
  cases r with
  | error e => exact hx pins σ _ _ e s' I2 hq'
  | ok fl =>
    cases fl with
    | ret u =>
      obtain ⟨v, H', I3, rv, ev, q3⟩ := I2.after hq'
      subst ev
      exact ⟨rv, ⟨V.ref (s.heap.objs.size + 1), H', I3, rfl, q3⟩⟩
    | next => exact False.elim hq'
    | brk => exact False.elim hq'
    | cont => exact False.elim hq'
theorem pe_makeB (M : Mk X.K C f) (F : FnOk X.prog X.w X.K X.mg X.base CX k f fd ps sp) (hr : Room (k + 1) X.A) (hg : Gl X x) (hm : X.mg x = some (.ref C)) (hb : KBinds X.K fd ps ks g gV) (hx : Passes CX X E)
    (ha : PA X (e :: es) t) (hkw : PK X kws tk) (hall : (backToKw pos (keywordEach kws X.env)).all (·.1.isSome) = true := by rfl) (hks : (backToKw pos (keywordEach kws X.env)).filterMap (·.1) = ks := by rfl)
    (hdb : (x == ("__debug__" : Str)) = false := by decide) (he : starEach (e :: es) X.env = (false, eval e X.env) :: starEach es X.env := by rfl)
    (hpl : ((backTo pos (starEach (e :: es) X.env)).any (·.1) || (backToKw pos (keywordEach kws X.env)).any (·.1.isNone)) = false := by rfl) :
    PE X (.Call (.Name x p) (e :: es) kws pos) (tMakeB C sp gV E t tk) := by
  refine ⟨fun pins s σ H Q I h => ?_⟩
  refine wpAny_Call_Name_kw (ld_glob I hg hm ?_ hdb)
  refine PySem.W.callWith_KW (h₀ := X.base) I.ok.mod.kin M.kp hall (thn (ha.run pos pins s σ H _ I h) fun us s1 ⟨vs, H1, I1, r, q⟩ => ?_) hpl he
  refine thn (hkw.run pos pins s1 σ H1 _ I1 q) fun ws s2 ⟨zs, H2, I2, rz, q2⟩ => ⟨I2.kIn, ?_⟩
  rw [hks]
  exact run_makeB M F hr hb hx I2 r rz q2
theorem pe_makeB0 (M : Mk X.K C f) (F : FnOk X.prog X.w X.K X.mg X.base CX k f fd ps sp) (hr : Room (k + 1) X.A) (hg : Gl X x) (hm : X.mg x = some (.ref C)) (hb : KBinds X.K fd ps ks g gV) (hx : Passes CX X E) (hkw : PK X kws tk)
    (hall : (backToKw pos (keywordEach kws X.env)).all (·.1.isSome) = true := by rfl) (hks : (backToKw pos (keywordEach kws X.env)).filterMap (·.1) = ks := by rfl) (hdb : (x == ("__debug__" : Str)) = false := by decide)
    (hpl : ((backTo pos (starEach [] X.env)).any (·.1) || (backToKw pos (keywordEach kws X.env)).any (·.1.isNone)) = false := by rfl) :
    PE X (.Call (.Name x p) [] kws pos) (tMakeB C sp gV E tNil tk) := by
  refine ⟨fun pins s σ H Q I h => ?_⟩
  refine wpAny_Call_Name_kw (ld_glob I hg hm ?_ hdb)
  refine PySem.W.callWith_KW0 (h₀ := X.base) I.ok.mod.kin M.kp hall ?_ hpl
  refine thn (hkw.run pos pins s σ H _ I h) fun ws s2 ⟨zs, H2, I2, rz, q2⟩ => ⟨I2.kIn, ?_⟩
  rw [hks]
  exact run_makeB (us := []) (vs := []) M F hr hb hx I2 .nil rz q2
theorem h_makeBE {σ : L2.St} {H : Hp} {Q : VK} (h : t σ H fun vs H1 => tk σ H1 fun zs H2 => ∀ x dx, H2 x = none → H2 dx = none → dx ≠ x → sp (gV (.ref x :: vs) zs) (upd (upd H2 dx (.own x)) x (.ins C dx [])) (fun v H3 => v = .non ∧ Q (.ref x) H3) E) : tMakeB C sp gV E t tk σ H Q := h
end
section
variable {K : PySem.W.Frag} {B H : Hp} {σ : L2.St} {Q : VK} {tk tv : TE} {v : V} {d : D} {x : Str}
theorem h_disp1S (hk : ∀ (H' : Hp) (Q : VK), Q (.str x) H' → tk σ H' Q) (hv : ∀ (H' : Hp) (Q : VK), Q v H' → tv σ H' Q) (w : Ex B H) (rv : Rep K B v d)
    (h : ∀ p B' H', Stp [] B H B' H' → Rep K B' (.ref p) (.dic [(.inr x, d)]) → Q (.ref p) H') : tDisp [(tk, tv)] σ H Q := fun p hp => by
  show tk σ (upd H p (.dK [])) _
  refine hk _ _ (hv _ _ ⟨upd_same, [(.inr x, v)], rfl, (by show 1 ≤ 15; decide), ?_⟩)
  rw [L2.upd_upd]
  have hb := w.none hp
  exact h p _ _ (Stp.new w hp) (.dic upd_same (.cons (rv.mono (Ex.new hb)) .nil))
end
/-! ### C.m(..), a def of the class C -/
def tClsF (C : Addr) (sp : Sp) (dvs : List V) (E : XK) (ta : TE) (t : TA) : TE := fun σ H Q => ta σ H fun x H1 => x = .ref C ∧ t σ H1 fun vs H2 => sp (vs ++ dvs) H2 Q E
section
variable {X : Cx} {CX : CXT} {k : Nat} {E : XK} {m : Str} {pos apos : Pos} {e o : Expr} {es : List Expr} {ta : TE} {t : TA} {C g : Addr} {mc : Value} {fd : FuncData} {ps : List Str} {sp : Sp} {dvs : List V} {ds : List Value}
theorem pe_clsf {pl : Sem Bool} (he : PE X o ta) (r : ClX.CRead X.K C mc) (c : ClX.CVal X.K C mc m (.ref g) (.ref g)) (F : FnOk X.prog X.w X.K X.mg X.base CX k g fd ps sp) (hk : PySem.W.keepIn X.K (.ref g) = true) (hr : Room k X.A)
    (hb : L2.Binds X.K fd ps ds) (hd : Vals dvs ds) (hx : Passes CX X E) (ha : PA X (e :: es) t)
    (hst : starEach (e :: es) X.env = (false, eval e X.env) :: starEach es X.env := by rfl) (hpl : (backTo pos (starEach es X.env)).any (·.1) = false := by rfl)
    (ht : eval (.Call (.Attribute o m apos) (e :: es) [] pos) X.env = (do
      let ov ← eval o X.env
      standAt apos.atName
      let (f, first) ← holding [ov] (getMethod ov m pl)
      callWith pos f first (backTo pos (starEach (e :: es) X.env)) (backToKw pos (keywordEach [] X.env))) := by rfl) :
    PE X (.Call (.Attribute o m apos) (e :: es) [] pos) (tClsF C sp dvs E ta t) := by
  refine ⟨fun pins s σ H Q I h => ?_⟩
  refine PySem.W.methodCall_KW (pl := pl) (thn (he.run pins s σ H _ I h) fun u s1 ⟨x, H1, I1, rx, ex, q⟩ => ?_) ht
  subst ex
  obtain rfl : u = Value.ref C := rx
  refine PySem.W.method_cls I1.kIn r.ga (ClX.getcval_ok I1 r c fun s2 I2 => ?_)
  refine PySem.W.callWith_K (first := []) (h₀ := X.base) I2.ok.mod.kin hk (thn (ha.run pos pins s2 σ H1 _ I2 q) fun us s3 ⟨vs, H2, I3, rv, q2⟩ => ⟨I3.kIn, ?_⟩) hst hpl
  exact run_fn F hr hb hd hx I3 rv q2
end
/-! # min of two -/
def minI (i j : Int) : Int := if j < i then j else i
def rMinY : List V → Hp → VK → Prop := fun xs H Q => ∃ i j, xs = [.int i, .int j] ∧ Q (.int (minI i j)) H
theorem cr_minY {X : Cx} (hc : X.calm = true) : CallR X (.builtin "min") rMinY := call_min2 hc
theorem h_min {i j : Int} {H : Hp} {Q : VK} (h : Q (.int (minI i j)) H) : rMinY [.int i, .int j] H Q := ⟨i, j, rfl, h⟩
/-! # a comprehension over a tuple -/
section
variable {K : PySem.W.Frag} {B H : Hp} {σ : L2.St} {Q : VK} {p : Addr} {xs : List V} {g : TG} {tt : TT} {te : TE} {α β S R' : Type} {P : β → Prop} {R : Err → Prop}
def LcU (K : PySem.W.Frag) (v : V) (g : TG) (tt : TT) (te : TE) (vs : List Nat) (σ : L2.St) (H : Hp) (Q : VK) : Prop := tLc (iTup K (tC v)) g tt te vs σ H Q
theorem h_lcUE {vs : List Nat} {tl : TE} (h : tl σ H fun x H1 => LcU K x g tt te vs σ H1 Q) : tLc (iTup K tl) g tt te vs σ H Q := h
theorem h_lcU [Enc α] {l : List α} {s0 : S} {f : α → S → Res (Option R' × S)} {k : List R' × S → Res β} {vs : List Nat} (hP : Post ((compR l s0 f).bind k) P R) (hs : SqT K H p xs) (hr : RepL K B xs (l.map enc))
    (J : Addr → List R' → S → Hp → Prop) (h0 : ∀ Dl, H Dl = none → J Dl [] s0 (upd H Dl (.lst []))) (hl : ∀ Dl acc s H', J Dl acc s H' → SqT K H' p xs)
    (hb : ∀ (Dl : Addr) (N : Hp → Prop) (T : Option R' × S → Prop) (x : α) v acc s H', J Dl acc s H' → Rep K B v (enc x) → acc.length < sizeLine → (∀ b s' H2, J Dl (acc ++ [b]) s' H2 → T (some b, s') → N H2) → (∀ s' H2, J Dl acc s' H2 → T (none, s') → N H2) → Post (f x s) T R →
      g v (wipe σ vs) H' (LcT σ vs tt te Dl N))
    (hd : ∀ Dl acc s H', J Dl acc s H' → Post (k (acc, s)) P R → Q (.ref Dl) H') : LcU K (.ref p) g tt te vs σ H Q := by
  refine ⟨p, rfl, ⟨xs, hs⟩, fun Dl hD => ?_⟩
  unfold compR at hP
  have hz : l.length ≤ 1000000 := by
    by_cases c : l.length ≤ 1000000
    · exact c
    · unfold guardR at hP; rw [if_neg c] at hP; exact hP.elim
  unfold guardR at hP
  rw [if_pos hz] at hP
  refine lc_tup (K := K) (a := p) (xs := xs) (fun i H' => ∃ acc s, J Dl acc s H' ∧ acc.length ≤ i ∧ Post ((compL (l.drop i) s f).bind fun q => k (acc ++ q.1, q.2)) P R) ⟨[], s0, h0 Dl hD, Nat.le_refl _, hP⟩ (fun i H' _ ⟨acc, s, j, _⟩ => hl Dl acc s H' j) ?_ ?_
  · rintro i y H' hi ⟨acc, s, j, hn, q⟩
    have h1 := (List.getElem?_eq_some_iff.mp hi).1
    rw [hr.length, List.length_map] at h1
    obtain ⟨x, hx⟩ : ∃ x, l[i]? = some x := ⟨l[i], List.getElem?_eq_getElem h1⟩
    obtain ⟨u, hu, ru⟩ := hr.get (i := i) (d := enc x) (by rw [List.getElem?_map, hx]; rfl)
    rw [hi] at hu; cases hu
    exact hb Dl _ _ x y acc s H' j ru (Nat.lt_of_le_of_lt (Nat.le_trans hn (Nat.le_trans (Nat.le_of_lt h1) hz)) (by decide)) (fun b s' H2 j2 t2 => ⟨acc ++ [b], s', j2, by rw [List.length_append]; exact Nat.succ_le_succ hn, t2⟩) (fun s' H2 j2 t2 => ⟨acc, s', j2, Nat.le_succ_of_le hn, t2⟩) (q.compS hx)
  · rintro H' ⟨acc, s, j, _, q⟩
    rw [hr.length, List.length_map, List.drop_eq_nil_of_le (Nat.le_refl _)] at q
    have q2 : Post (k (acc ++ [], s)) P R := q
    rw [List.append_nil] at q2
    exact hd Dl acc s H' j q2
end
end Y

set_option Elab.async false
set_option linter.all false
set_option maxRecDepth 100000
set_option maxHeartbeats 4000000
namespace Y
open PySem PySem.Spec PyProof.Rows
open L2
/-! # o.m(k = v) of one of several classes -/
structure MAltK (P : Program) (wo : World) (K : PySem.W.Frag) (mg : Str → Option Value) (base : Heap) (CX : CXT) (k : Nat) (m : Str) (ks : List Str) (gV : List V → List V → List V) (C : Addr) (sp : Sp) : Prop where
  ex : ∃ (f : Addr) (fd : FuncData) (ps : List Str) (g : List Value → List Value → List Value), Cls K C ∧ Meth K C m f ∧ FnOk P wo K mg base CX k f fd ps sp ∧ KBinds K fd ps ks g gV
def tMethK (A : Addr → Sp → Prop) (m : Str) (gV : List V → List V → List V) (E : L2.St → XK) (ta : TE) (tk : TA) : TE := fun σ H Q => ta σ H fun x H1 => ∃ a C dx fs sp, x = .ref a ∧ H1 a = some (.ins C dx fs) ∧ A C sp ∧ fs.lookup m = none ∧ tk σ H1 fun zs H2 => sp (gV [x] zs) H2 Q (E σ)
section
variable {X : Cx} {CX : CXT} {k : Nat} {E : L2.St → XK} {m : Str} {ks : List Str} {pos apos : Pos} {o : Expr} {kws : List Keyword} {ta : TE} {tk : TA} {A : Addr → Sp → Prop} {gV : List V → List V → List V} {f : Addr} {fd : FuncData} {ps : List Str} {sp : Sp} {g : List Value → List Value → List Value}
theorem run_fnkS {pins : List (Addr × Obj)} {σ : L2.St} {H : Hp} {s : Shared} {Q : VK} {us ws : List Value} {vs zs : List V} (F : FnOk X.prog X.w X.K X.mg X.base CX k f fd ps sp) (hr : Room k X.A) (hb : KBinds X.K fd ps ks g gV) (hx : PassesAt CX X σ (E σ))
    (I : Inv X pins σ H s) (r : Vals vs us) (rz : Vals zs ws) (h : sp (gV vs zs) H Q (E σ)) : wpAny (model X.prog X.w) X.A (call (.ref f) us (ks.zip ws)) (EP X pins σ Q) X.xe s := by
  have r2 := hb.rel r rz
  have hl : (g us ws).length = ps.length := by rw [← r2.length]; exact F.len _ _ _ _ h
  refine wpAny_call (codeAny_mono (F.run X.A X.stack s H ⟨us, ks.zip ws⟩ (g us ws) (gV vs zs) Q (E σ) hr I.env0 (hb.to s us ws I.kIn hl) r2 h) fun r s' hq => ?_)
  cases r with
  | error e => exact hx pins H s e s' I hq
  | ok fl =>
    cases fl with
    | ret u => exact I.after hq
    | next => exact False.elim hq
    | brk => exact False.elim hq
    | cont => exact False.elim hq
theorem pe_methK0 {pl : Sem Bool} (he : PE X o ta) (hA : ∀ C sp, A C sp → MAltK X.prog X.w X.K X.mg X.base CX k m ks gV C sp) (hr : Room k X.A) (hx : ∀ σ, PassesAt CX X σ (E σ)) (hkw : PK X kws tk)
    (hall : (backToKw pos (keywordEach kws X.env)).all (·.1.isSome) = true := by rfl) (hks : (backToKw pos (keywordEach kws X.env)).filterMap (·.1) = ks := by rfl)
    (hpl : ((backTo pos (starEach [] X.env)).any (·.1) || (backToKw pos (keywordEach kws X.env)).any (·.1.isNone)) = false := by rfl)
    (ht : eval (.Call (.Attribute o m apos) [] kws pos) X.env = (do
      let ov ← eval o X.env
      standAt apos.atName
      let (f, first) ← holding [ov] (getMethod ov m pl)
      callWith pos f first (backTo pos (starEach [] X.env)) (backToKw pos (keywordEach kws X.env))) := by rfl) :
    PE X (.Call (.Attribute o m apos) [] kws pos) (tMethK A m gV E ta tk) := by
  refine ⟨fun pins s σ H Q I h => ?_⟩
  refine PySem.W.methodCall_KW (pl := pl) (thn (he.run pins s σ H _ I h) fun u s1 ⟨x, H1, I1, rx, a, C, dx, fs, sp, ex, ea, hAC, l, q⟩ => ?_) ht
  subst ex
  obtain rfl : u = Value.ref a := rx
  obtain ⟨f, fd, ps, g, c, hm, F, hb⟩ := (hA C sp hAC).ex
  refine getmeth_ok I1 ea c hm l ?_
  refine PySem.W.callWith_KW0 (first := [.ref a]) (h₀ := X.base) I1.ok.mod.kin hm.kp hall ?_ hpl
  refine thn (hkw.run pos pins s1 σ H1 _ I1 q) fun ws s2 ⟨zs, H2, I2, rz, q2⟩ => ⟨I2.kIn, ?_⟩
  rw [hks]
  exact run_fnkS (us := [.ref a]) (vs := [.ref a]) F hr hb (hx σ) I2 (.cons rfl .nil) rz q2
theorem h_methKE {σ : L2.St} {H : Hp} {Q : VK} (h : ta σ H fun x H1 => ∃ a C dx fs sp, x = .ref a ∧ H1 a = some (.ins C dx fs) ∧ A C sp ∧ fs.lookup m = none ∧ tk σ H1 fun zs H2 => sp (gV [x] zs) H2 Q (E σ)) : tMethK A m gV E ta tk σ H Q := h
end
/-! # tuples: parts and sums -/
section
variable {K : PySem.W.Frag} {B H : Hp} {Q : VK} {p q : Addr} {lo hi : Option Int} {l l2 : List D}
theorem h_slA (w : Ex B H) (r : Rep K B (.ref p) (.tup (l.map Enc.enc))) (h : ∀ u B' H', Stp [] B H B' H' → Rep K B' u (.tup ((cutL l lo hi).map Enc.enc)) → Q u H') : rSlA K (.ref p) lo hi H Q := by
  obtain ⟨p', xs, e, s, rr⟩ := r.st w
  cases e
  refine ⟨p, xs, rfl, s, fun c => ?_, fun _ p2 hp2 => ?_⟩
  · have e : cutL l lo hi = l := by
      have hl : xs.length = l.length := by rw [rr.length, List.length_map]
      rw [hl] at c
      unfold cutL
      rw [c.1, c.2]
      simp
    refine h _ _ _ (Stp.refl w) ?_
    rw [e]
    exact r
  · exact h _ _ _ (Stp.new w hp2) (.tup (SqT.of upd_same) ((rr.cut lo hi).mono (Ex.new (w.none hp2))))
theorem h_catA (w : Ex B H) (r1 : Rep K B (.ref p) (.tup (l.map Enc.enc))) (r2 : Rep K B (.ref q) (.tup (l2.map Enc.enc))) (hz : l.length + l2.length ≤ 1000000) (h : ∀ u B' H', Stp [] B H B' H' → Rep K B' u (.tup ((l ++ l2).map Enc.enc)) → Q u H') : rCatA K (.ref p) (.ref q) H Q := by
  obtain ⟨p', xs, e, s1, rr1⟩ := r1.st w
  cases e
  obtain ⟨q', ys, e, s2, rr2⟩ := r2.st w
  cases e
  have hl : xs.length = l.length := by rw [rr1.length, List.length_map]
  have hl2 : ys.length = l2.length := by rw [rr2.length, List.length_map]
  refine ⟨p, q, xs, ys, rfl, rfl, s1, s2, by rw [hl, hl2]; exact Nat.le_trans hz (by decide), fun e => ?_, fun _ e => ?_, fun _ _ p2 hp2 => ?_⟩
  · subst e
    have : l = [] := List.eq_nil_of_length_eq_zero hl.symm
    subst this
    exact h _ _ _ (Stp.refl w) r2
  · subst e
    have : l2 = [] := List.eq_nil_of_length_eq_zero hl2.symm
    subst this
    refine h _ _ _ (Stp.refl w) ?_
    rw [List.append_nil]
    exact r1
  · exact h _ _ _ (Stp.new w hp2) (.tup (SqT.of upd_same) ((rr1.cat rr2).mono (Ex.new (w.none hp2))))
end
end Y

set_option Elab.async false
set_option linter.all false
set_option maxRecDepth 100000
set_option maxHeartbeats 4000000
/-! # max(xs, default = d): the loop with its keywords -/
namespace MxD
open PySem
section
variable {prog : Program} {w : World} {A : Around} {R : Result → Shared → Prop} {I : Addr} {fp wr : List Addr} {n : Nat} {P : Nat → Value → Prop} {St : Nat → Heap → Prop} {kw : List (Str × Value)}
theorem nm : (toString "max" ++ toString ".loop" : String) = "max.loop" := by decide
/-- behind the first item -/
theorem loop (W : Walks prog w A.in1 I fp wr n P St) (bt : Nat → Nat → Bool) (hcmp : CmpOf prog w A.in1 .Gt P bt) (S : Addr) (off : S ∉ fp) (k : Nat) : ∀ (j : Nat) (s : Shared) (best : Value) (c : Nat), n = j + 1 + k → St (j + 1) s.heap → P (argBest bt j) best →
    s.heap.get? S = some { cls := .type "list", dict := none, data := .seq #[best, best] c, slots := #[] } →
    (∀ v h' tk, P (argBest bt (n - 1)) v → (∀ b o, b ∉ wr → b ≠ S → s.heap.get? b = some o → h'.get? b = some o) → R (.ok (.ret v)) { s with heap := h', toks := tk }) → codeAny (model prog w) A (.builtin "max.loop" ⟨[.ref I, .none, .ref S], kw⟩) R s := by
  have offw : S ∉ wr := fun h => off (W.sub _ h)
  induction k with
  | zero =>
    intro j s best c en st pb hS fin
    refine codeAny_builtin F.entry_max_loop ?_
    rw [Around.under_plainId F.plain_max_loop _]
    show wpAny (model prog w) A.in1 (seqItems? (.ref S) >>= _) _ _ s
    refine wpAny_bind (wpAny_seqItems hS rfl ?_)
    show wpAny (model prog w) A.in1 (tryCatch (pyNext (.ref I)) _ >>= _) _ _ s
    refine wpAny_bind (wpAny_tryCatch (W.done s _ _ (en ▸ st) fun h' tk kept => ?_))
    show wpAny (model prog w) A.in1 (updateSeq S (fun _ => #[]) >>= _) _ _ _
    refine wpAny_bind (wpAny_updateSeq (kept S _ offw hS) rfl (wpAny_bind (wpAny_letGo (wpAny_pure ?_))))
    exact fin best _ tk (by rw [en]; exact pb) fun b o h1 h2 e => (Heap.get?_update_other _ _ h2.symm).trans (kept b o h1 e)
  | succ k ih =>
    intro j s best c en st pb hS fin
    refine codeAny_builtin F.entry_max_loop ?_
    rw [Around.under_plainId F.plain_max_loop _]
    show wpAny (model prog w) A.in1 (seqItems? (.ref S) >>= _) _ _ s
    refine wpAny_bind (wpAny_seqItems hS rfl ?_)
    show wpAny (model prog w) A.in1 (tryCatch (pyNext (.ref I)) _ >>= _) _ _ s
    refine wpAny_bind (wpAny_tryCatch (W.item (j + 1) s _ _ (by omega) st fun v h' tk pv st' kept => ?_))
    have hS' := kept S _ offw hS
    show wpAny (model prog w) A.in1 (tryCatch (holding [v, v] (richCompare .Gt v best >>= _)) _ >>= _) _ _ _
    refine wpAny_bind (wpAny_tryCatch (wpAny_holding (wpAny_bind (hcmp (j + 1) (argBest bt j) v best _ _ _ pv pb ?_))))
    refine wpAny_bind (wpAny_holding (wpAny_truthy_bool (wpAny_bind (wpAny_letGo (wpAny_pure ?_)))))
    by_cases hb : bt (j + 1) (argBest bt j) = true
    · rw [hb]
      simp only [if_true]
      refine wpAny_bind (wpAny_updateSeq hS' rfl (wpAny_bind (wpAny_letGo ?_)))
      rw [nm]
      refine wpAny_pure ⟨plainId_quiet F.plain_max_loop _, ih (j + 1) _ v _ (by omega) (W.frame _ _ _ st' fun b hf o e => (Heap.get?_update_other _ _ (fun q : S = b => off (by rw [q]; exact hf))).trans e) (by simp only [argBest, hb, if_true]; exact pv) (Heap.get?_update_self _ hS' rfl) fun v2 h2 tk2 p2 k2 => ?_⟩
      exact fin v2 h2 tk2 p2 fun b o h1 hn e => k2 b o h1 hn ((Heap.get?_update_other _ _ hn.symm).trans (kept b o h1 e))
    · have hb := Bool.eq_false_iff.mpr hb
      rw [hb]
      simp only [Bool.false_eq_true, if_false]
      refine wpAny_bind (wpAny_letGo ?_)
      rw [nm]
      refine wpAny_pure ⟨plainId_quiet F.plain_max_loop _, ih (j + 1) _ best c (by omega) st' (by simp only [argBest, hb, Bool.false_eq_true, if_false]; exact pb) hS' fun v2 h2 tk2 p2 k2 => ?_⟩
      exact fin v2 h2 tk2 p2 fun b o h1 hn e => k2 b o h1 hn (kept b o h1 e)
theorem first (W : Walks prog w A.in1 I fp wr n P St) (bt : Nat → Nat → Bool) (hcmp : CmpOf prog w A.in1 .Gt P bt) (S : Addr) (off : S ∉ fp) (hn : 0 < n) {s : Shared} {c : Nat} (st : St 0 s.heap)
    (hS : s.heap.get? S = some { cls := .type "list", dict := none, data := .seq #[] c, slots := #[] })
    (fin : ∀ v h' tk, P (argBest bt (n - 1)) v → (∀ b o, b ∉ wr → b ≠ S → s.heap.get? b = some o → h'.get? b = some o) → R (.ok (.ret v)) { s with heap := h', toks := tk }) : codeAny (model prog w) A (.builtin "max.loop" ⟨[.ref I, .none, .ref S], kw⟩) R s := by
  have offw : S ∉ wr := fun h => off (W.sub _ h)
  refine codeAny_builtin F.entry_max_loop ?_
  rw [Around.under_plainId F.plain_max_loop _]
  show wpAny (model prog w) A.in1 (seqItems? (.ref S) >>= _) _ _ s
  refine wpAny_bind (wpAny_seqItems hS rfl ?_)
  show wpAny (model prog w) A.in1 (tryCatch (pyNext (.ref I)) _ >>= _) _ _ s
  refine wpAny_bind (wpAny_tryCatch (W.item 0 s _ _ hn st fun v h' tk pv st' kept => ?_))
  have hS' := kept S _ offw hS
  show wpAny (model prog w) A.in1 (updateSeq S (fun _ => #[v, v]) >>= _) _ _ _
  refine wpAny_bind (wpAny_updateSeq hS' rfl ?_)
  rw [nm]
  refine wpAny_pure ⟨plainId_quiet F.plain_max_loop _, loop W bt hcmp S off (n - 1) 0 _ v _ (by omega) (W.frame _ _ _ st' fun b hf o e => (Heap.get?_update_other _ _ (fun q : S = b => off (by rw [q]; exact hf))).trans e) pv (Heap.get?_update_self _ hS' rfl) fun v2 h2 tk2 p2 k2 => ?_⟩
  exact fin v2 h2 tk2 p2 fun b o h1 hn e => k2 b o h1 hn ((Heap.get?_update_other _ _ hn.symm).trans (kept b o h1 e))
/-- no item: the default -/
theorem none_ (W : Walks prog w A.in1 I fp wr n P St) (n0 : n = 0) (S : Addr) (off : S ∉ fp) {s : Shared} {c : Nat} {d : Value} {x : Str} (st : St 0 s.heap)
    (hS : s.heap.get? S = some { cls := .type "list", dict := none, data := .seq #[] c, slots := #[] })
    (fin : ∀ h' tk, (∀ b o, b ∉ wr → b ≠ S → s.heap.get? b = some o → h'.get? b = some o) → R (.ok (.ret d)) { s with heap := h', toks := tk }) : codeAny (model prog w) A (.builtin "max.loop" ⟨[.ref I, .none, .ref S], [(x, d)]⟩) R s := by
  refine codeAny_builtin F.entry_max_loop ?_
  rw [Around.under_plainId F.plain_max_loop _]
  show wpAny (model prog w) A.in1 (seqItems? (.ref S) >>= _) _ _ s
  refine wpAny_bind (wpAny_seqItems hS rfl ?_)
  show wpAny (model prog w) A.in1 (tryCatch (pyNext (.ref I)) _ >>= _) _ _ s
  refine wpAny_bind (wpAny_tryCatch (W.done s _ _ (n0.symm ▸ st) fun h' tk kept => ?_))
  exact wpAny_bind (wpAny_rule (wpAny_pure (fin h' tk fun b o h1 _ e => kept b o h1 e)))
end
theorem args_max_d (a d : Value) : argsOk "max" ⟨[a], [(Str.ofString "default", d)]⟩ := by unfold argsOk; kernel_rfl
theorem call_tree_kw {prog : Program} {w : World} {A : Around} {s : Shared} {E : Value → Shared → Prop} {id : String} {b : Builtin} {args : List Value} {kw : List (Str × Value)} {Q : Value → Shared → Prop} (hk : builtinKind id = none) (hp : plainId id = true) (hb : entryFor table id = some b) (ha : argsOk id ⟨args, kw⟩)
    (hc : wpAny (model prog w) A.in1 (b ⟨args, kw⟩) (fun fin s' => match fin with
      | .done f => (match (Except.ok f : Result) with | .ok (.ret v) => Q v s' | .ok _ => False | .error e => E e s')
      | .again c => c.quiet = true ∧ codeAny (model prog w) A c (fun r s' => match r with | .ok (.ret v) => Q v s' | .ok _ => False | .error e => E e s') s') E s) : wpAny (model prog w) A (call (.builtin id) args kw) Q E s := by
  refine wpAny_call (codeAny_call_builtin hp hb ?_)
  simp only [checkBuiltinCall, hk]
  cases hsig : Manifest.signature? id with
  | none => exact wpAny_pure hc
  | some sig =>
    simp only [argsOk, hsig] at ha
    have h2 : Bind.checkArgs id sig ⟨args, kw⟩ = pure () := ha
    show wpAny (model prog w) A.in1 (Bind.checkArgs id sig ⟨args, kw⟩) _ _ s
    rw [h2]
    exact wpAny_pure hc
open PyProof.Rows L2 in
theorem raw {prog : Program} {w : World} {A : Around} {s : Shared} {E Q : Value → Shared → Prop} {l : Addr} {its : List Value} {ns : List Int} {d : Int} {td : Tok} (hh : A.handled = none) (hl : s.heap.IsList l its.toArray) (hi : IntsAre its ns)
    (h : ∀ h' tk M t', (∀ b o, s.heap.get? b = some o → h'.get? b = some o) → (ns ≠ [] → M ∈ ns ∧ ∀ a, a ∈ ns → a ≤ M) → (ns = [] → M = d) → Q (.int M t') { s with heap := h', toks := tk }) : wpAny (model prog w) A (call (.builtin "max") [.ref l] [(Str.ofString "default", .int d td)]) Q E s := by
  obtain ⟨xs, e⟩ := hi.allInts.items
  have hn : numsOf (intItems xs).toList = ns := by rw [← e]; exact hi.numsOf
  rw [nums_intItems] at hn
  subst hn
  rw [e] at hl
  refine call_tree_kw F.kind_max F.plain_max F.entry_max (args_max_d _ _) ?_
  show wpAny (model prog w) A.in1 (Builtin.Builtins.bindParams "max" ["key", "default"] 0 ⟨[], [(Str.ofString "default", .int d td)]⟩ >>= _) _ _ s
  refine wpAny_bind (wpAny_of_eq (show Builtin.Builtins.bindParams "max" ["key", "default"] 0 ⟨[], [(Str.ofString "default", .int d td)]⟩ = pure [none, some (.int d td)] by kernel_rfl) ?_)
  refine wpAny_bind (wpAny_pure ?_)
  refine wpAny_bind (wpAny_mono (iter_intList (Q := fun it s₂ => it = .ref s.heap.objs.size ∧ s₂ = { s with heap := s.heap.push { cls := .type "list_iterator", data := .fields #[.ref l, .int 0 0] } } ∧ (s₂.heap.IsListIter s.heap.objs.size l 0 ∧ s₂.heap.IsList l (intItems xs)) ∧ ∀ b ∈ [s.heap.objs.size, l], b < s₂.heap.objs.size) hl fun s₂ e st hfp hlI => ⟨rfl, e, st, hfp⟩) ?_ fun _ _ e => e)
  rintro _ s₂ ⟨rfl, e, st, hfp⟩
  subst e
  have hne : l ≠ s.heap.objs.size := by obtain ⟨_, e, _⟩ := hl; exact Nat.ne_of_lt (Heap.lt_size e)
  have W := Walks.list (prog := prog) (w := w) (A := A.in1) hh _ l hne (intItems xs)
  refine wpAny_bind (wpAny_newObj_type ?_)
  rw [nm]
  have off := fun hm => Nat.lt_irrefl _ (hfp _ hm)
  have st2 := fun o2 : Obj => W.frame 0 _ ((s.heap.push { cls := .type "list_iterator", data := .fields #[.ref l, .int 0 0] }).push o2) st fun b _ o e => Heap.get?_push_of_some _ e
  have old : ∀ (h' : Heap) {S : Addr}, S = s.heap.objs.size + 1 → (∀ b o, b ∉ [s.heap.objs.size] → b ≠ S → ((s.heap.push { cls := .type "list_iterator", data := .fields #[.ref l, .int 0 0] }).push { cls := .type "list", data := .seq #[] }).get? b = some o → h'.get? b = some o) → ∀ b o, s.heap.get? b = some o → h'.get? b = some o := fun h' S eS k b o e => by
    have hb := Heap.lt_size e
    refine k b o (fun m => ?_) (by rw [eS]; exact Nat.ne_of_lt (Nat.lt_succ_of_lt hb)) (Heap.get?_push_of_some _ (Heap.get?_push_of_some _ e))
    rw [List.mem_singleton.mp m] at hb
    exact Nat.lt_irrefl _ hb
  have eS : ∀ o : Obj, (s.heap.push o).objs.size = s.heap.objs.size + 1 := fun o => Heap.size_push ..
  have sz : (intItems xs).size = xs.size := by simp [intItems]
  by_cases hz : (intItems xs).size = 0
  · refine wpAny_pure ⟨plainId_quiet F.plain_max_loop _, none_ W hz _ off (st2 _) (Heap.get?_push_size _ rfl) fun h' tk kept => ?_⟩
    have : xs.toList = [] := by
      apply List.eq_nil_of_length_eq_zero
      rw [Array.length_toList]
      omega
    exact h h' tk d td (old h' (eS _) kept) (fun q => absurd (by rw [this]; rfl) q) fun _ => rfl
  · refine wpAny_pure ⟨plainId_quiet F.plain_max_loop _, first W _ (CmpOf.ints_gt (numAt xs) (fun _ _ => intItems_at)) _ off (by omega) (st2 _) (Heap.get?_push_size _ rfl) fun v h' tk pv kept => ?_⟩
    obtain ⟨t, rfl⟩ := intItems_at (show (intItems xs)[_]? = some v from pv)
    obtain ⟨h1, h2⟩ := argBest_gt (numAt xs) ((intItems xs).size - 1)
    refine h h' tk _ t (old h' (eS _) kept) (fun _ => ⟨?_, fun a ha => ?_⟩) fun q => absurd q ?_
    · rw [numAt_eq]; exact PySem.getD_mem (by rw [List.length_map, Array.length_toList]; omega)
    · obtain ⟨j, hj, rfl⟩ := mem_getD ha
      rw [List.length_map, Array.length_toList] at hj
      rw [← numAt_eq]; exact h2 j (by omega)
    · intro e2
      have := congrArg List.length e2
      rw [List.length_map, Array.length_toList] at this
      have : xs.size = 0 := this
      omega
open PyProof.Rows L2 in
theorem rawT {prog : Program} {w : World} {A : Around} {s : Shared} {E Q : Value → Shared → Prop} {l : Addr} {its : List Value} {ns : List Int} (hh : A.handled = none) (hT : s.heap.IsTuple l its.toArray) (hi : IntsAre its ns) (hne : ns ≠ [])
    (h : ∀ h' tk M t', (∀ b o, s.heap.get? b = some o → h'.get? b = some o) → M ∈ ns → (∀ a, a ∈ ns → a ≤ M) → Q (.int M t') { s with heap := h', toks := tk }) : wpAny (model prog w) A (call (.builtin "max") [.ref l]) Q E s := by
  obtain ⟨xs, e⟩ := hi.allInts.items
  have hn : numsOf (intItems xs).toList = ns := by rw [← e]; exact hi.numsOf
  rw [nums_intItems] at hn
  subst hn
  rw [e] at hT
  have lt : l < s.heap.objs.size := by obtain ⟨_, e, _⟩ := hT; exact Heap.lt_size e
  have sz : (intItems xs).size = xs.size := by simp [intItems]
  have hx : 0 < xs.size := by
    cases q : xs.size with
    | zero => exact absurd (List.eq_nil_of_length_eq_zero (by rw [List.length_map, Array.length_toList]; exact q)) hne
    | succ n => exact Nat.succ_pos n
  refine call_max_walk (wpAny_pyIter_tuple hT ?_)
  refine ⟨_, [_, l], [_], _, _, _, _, rfl, Walks.tuple (A := A.in1) hh _ l (Nat.ne_of_lt lt) (intItems xs), ⟨⟨_, Heap.get?_push_size _ rfl, rfl, rfl⟩, hT.push _⟩, fun c hc => ?_, by rw [sz]; exact hx, CmpOf.ints_gt (numAt xs) (fun _ _ => intItems_at), fun v h' tk pv hk => ?_⟩
  · show c < (s.heap.push _).objs.size
    rw [Heap.size_push]
    rcases List.mem_cons.mp hc with rfl | hc
    · exact Nat.lt_succ_self _
    · rw [List.mem_singleton.mp hc]; exact Nat.lt_succ_of_lt lt
  · obtain ⟨t, rfl⟩ := intItems_at (show (intItems xs)[_]? = some v from pv)
    obtain ⟨h1, h2⟩ := argBest_gt (numAt xs) ((intItems xs).size - 1)
    refine h h' tk _ t (fun b o e => hk b o (fun m => ?_) (Heap.get?_push_of_some _ e)) ?_ fun a ha => ?_
    · have := Heap.lt_size e
      rw [List.mem_singleton.mp m] at this
      exact Nat.lt_irrefl _ this
    · rw [numAt_eq]; exact PySem.getD_mem (by rw [List.length_map, Array.length_toList]; omega)
    · obtain ⟨j, hj, rfl⟩ := mem_getD ha
      rw [List.length_map, Array.length_toList] at hj
      rw [← numAt_eq]; exact h2 j (by omega)
end MxD
namespace Y
open PySem PySem.Spec PyProof.Rows
open L2
def maxL (d : Int) : List Int → Int
  | [] => d
  | n :: r => r.foldl (fun a b => if a < b then b else a) n
theorem foldmax : ∀ (r : List Int) (n : Int), (r.foldl (fun a b => if a < b then b else a) n = n ∨ r.foldl (fun a b => if a < b then b else a) n ∈ r) ∧ n ≤ r.foldl (fun a b => if a < b then b else a) n ∧ ∀ a ∈ r, a ≤ r.foldl (fun a b => if a < b then b else a) n
  | [], n => ⟨.inl rfl, Int.le_refl _, fun _ m => nomatch m⟩
  | x :: r, n => by
    obtain ⟨h1, h2, h3⟩ := foldmax r (if n < x then x else n)
    simp only [List.foldl_cons]
    have hx : n ≤ (if n < x then x else n) ∧ x ≤ (if n < x then x else n) := by split <;> omega
    refine ⟨?_, Int.le_trans hx.1 h2, fun a m => ?_⟩
    · rcases h1 with e | m
      · rw [e]
        split
        · exact .inr List.mem_cons_self
        · exact .inl rfl
      · exact .inr (List.mem_cons_of_mem _ m)
    · rcases List.mem_cons.mp m with rfl | m
      · exact Int.le_trans hx.2 h2
      · exact h3 a m
theorem maxL_eq {ns : List Int} {M d : Int} (h : ns ≠ [] → M ∈ ns ∧ ∀ a, a ∈ ns → a ≤ M) (h0 : ns = [] → M = d) : M = maxL d ns := by
  cases ns with
  | nil => exact h0 rfl
  | cons n r =>
    obtain ⟨m, u⟩ := h (by simp)
    obtain ⟨h1, h2, h3⟩ := foldmax r n
    refine Int.le_antisymm ?_ (u _ ?_)
    · rcases List.mem_cons.mp m with rfl | m
      · exact h2
      · exact h3 M m
    · rcases h1 with e | m
      · show r.foldl _ n ∈ _
        rw [e]; exact List.mem_cons_self
      · exact List.mem_cons_of_mem _ m
def rMaxD (K : PySem.W.Frag) : List V → List V → Hp → VK → Prop := fun vs zs H Q => ∃ (a : Addr) (ns : List Int) (d : Int), vs = [V.ref a] ∧ zs = [.int d] ∧ SqL K H a (ns.map V.int) ∧ Q (.int (maxL d ns)) H
theorem cr_maxDef {X : Cx} (hc : X.calm = true) : CallRK X (.builtin "max") [Str.ofString "default"] (rMaxD X.K) := by
  intro pins s σ H vs zs us ws Q I r rz h
  obtain ⟨a, ns, d, rfl, rfl, hs, q⟩ := h
  obtain ⟨its, rv, hl, _⟩ := I.list hs
  obtain rfl := Vals.ref1 r
  obtain ⟨w1, rfl, t, e1⟩ := vals1 rz
  subst e1
  refine MxD.raw (I.ok.hd hc) hl.isList rv.ints fun h' tk m t' hk h1 h2 => ⟨.int _, H, I.kept hk, ⟨_, rfl⟩, ?_⟩
  rw [maxL_eq h1 h2]
  exact q
def rMaxT (K : PySem.W.Frag) : List V → Hp → VK → Prop := fun vs H Q => ∃ (a : Addr) (ns : List Int), vs = [V.ref a] ∧ ns ≠ [] ∧ SqT K H a (ns.map V.int) ∧ Q (.int (maxL 0 ns)) H
theorem cr_maxTup {X : Cx} (hc : X.calm = true) : CallR X (.builtin "max") (rMaxT X.K) := by
  intro pins s σ H vs us Q I r h
  obtain ⟨a, ns, rfl, hne, hs, q⟩ := h
  obtain ⟨its, rv, hl, _⟩ := I.tuple hs
  obtain rfl := Vals.ref1 r
  refine MxD.rawT (I.ok.hd hc) hl rv.ints hne fun h' tk m t' hk h1 h2 => ⟨.int _, H, I.kept hk, ⟨_, rfl⟩, ?_⟩
  rw [maxL_eq (d := 0) (fun _ => ⟨h1, h2⟩) fun e => absurd e hne]
  exact q
/-- the numbers of a tuple of numbers -/
def intsO : List D → Option (List Int)
  | [] => some []
  | .int i :: r => (intsO r).map (i :: ·)
  | _ :: _ => none
theorem intsO_eq : ∀ {ds : List D} {ns : List Int}, intsO ds = some ns → ds = ns.map D.int
  | [], ns, e => by cases e; rfl
  | .int i :: r, ns, e => by
    cases q : intsO r with
    | none =>
      have e' : (intsO r).map (i :: ·) = some ns := e
      rw [q] at e'; exact nomatch e'
    | some m =>
      have e' : (intsO r).map (i :: ·) = some ns := e
      rw [q] at e'
      cases e'
      rw [intsO_eq q]
      rfl
def asIs (d : D) : Res (List Int) := match d with | .tup ds => (match intsO ds with | Option.some (n :: r) => .ok (n :: r) | _ => .stuck) | _ => .stuck
theorem Post.asIs {β : Type} {d : D} {k : List Int → Res β} {P : β → Prop} {R : Err → Prop} (h : Post ((Y.asIs d).bind k) P R) : ∃ ns : List Int, ns ≠ [] ∧ d = .tup (ns.map D.int) ∧ Post (k ns) P R := by
  cases d with
  | tup ds =>
    have h' : Post ((match intsO ds with | Option.some (n :: r) => Res.ok (n :: r) | _ => Res.stuck).bind k) P R := h
    cases q : intsO ds with
    | none => rw [q] at h'; exact h'.elim
    | some m =>
      rw [q] at h'
      cases m with
      | nil => exact h'.elim
      | cons n r => exact ⟨n :: r, by simp, by rw [intsO_eq q], h'⟩
  | _ => exact h.elim
theorem h_maxTup {K : PySem.W.Frag} {B H : Hp} {Q : VK} {v : V} {ns : List Int} (w : Ex B H) (hne : ns ≠ []) (r : Rep K B v (.tup (ns.map D.int))) (h : Q (.int (maxL 0 ns)) H) : rMaxT K [v] H Q := by
  obtain ⟨p, xs, rfl, s, rr⟩ := r.st w
  refine ⟨p, ns, rfl, hne, ?_, h⟩
  rw [← RepL.of_ints rr]
  exact s
theorem h_ckw {σ : L2.St} {H : Hp} {Q : VK} {r : List V → List V → Hp → VK → Prop} {t tk : TA} (h : t σ H fun vs H1 => tk σ H1 fun zs H2 => r vs zs H2 Q) : tCKw r t tk σ H Q := h
theorem h_maxDef {K : PySem.W.Frag} {B H : Hp} {Q : VK} {p : Addr} {xs : List V} {l : List Int} {d : Int} (s : SqL K H p xs) (r : RepL K B xs (l.map Enc.enc)) (h : Q (.int (maxL d l)) H) : rMaxD K [.ref p] [.int d] H Q := by
  refine ⟨p, l, d, rfl, rfl, ?_, h⟩
  rw [← r.intsV]
  exact s
/-! # x & 255 -/
def rAnd255 : V → V → Hp → VK → Prop := fun x y H Q => ∃ (i : Int) (k : Nat), x = .int i ∧ y = .int (2 ^ k - 1) ∧ Q (.int (i % 2 ^ k)) H
theorem op_and255 {X : Cx} : OpR X (binaryOp .BitAnd) rAnd255 := op_andM
theorem h_and255 {H : Hp} {Q : VK} {i : Int} (h : Q (.int (i % 256)) H) : rAnd255 (.int i) (.int 255) H Q := ⟨i, 8, rfl, rfl, h⟩
/-! # what is never reached -/
theorem ps_unreached {X : Cx} {st : Stmt} : PS X st (fun _ _ _ => False) := ⟨fun _ _ _ _ _ _ h => h.elim⟩
theorem pss_unreached {X : Cx} {ss : List Stmt} : PSs X ss (fun _ _ _ => False) := ⟨fun _ _ _ _ _ _ h => h.elim⟩
/-! # comprehensions with places, and over two lists -/
section
variable {K : PySem.W.Frag} {B H : Hp} {σ : L2.St} {Q : VK} {p p2 : Addr} {xs ys : List V} {g : TG} {tt : TT} {te : TE} {α α' β S R' : Type} {P : β → Prop} {R : Err → Prop}
def LcE (K : PySem.W.Frag) (ws : List V) (g : TG) (tt : TT) (te : TE) (vs : List Nat) (σ : L2.St) (H : Hp) (Q : VK) : Prop := tLc (iEnum K (fun _ H Q => Q ws H)) g tt te vs σ H Q
theorem h_lcEnE {vs : List Nat} {ta : TA} (h : ta σ H fun ws H1 => LcE K ws g tt te vs σ H1 Q) : tLc (iEnum K ta) g tt te vs σ H Q := h
theorem h_lcEn [Enc α] {l : List α} {s0 : S} {f : Tp2 Int α → S → Res (Option R' × S)} {k : List R' × S → Res β} {vs : List Nat} (hP : Post ((compR (enumL l) s0 f).bind k) P R) (hs : SqL K H p xs) (hr : RepL K B xs (l.map Enc.enc))
    (J : Addr → List R' → S → Hp → Prop) (h0 : ∀ Dl, H Dl = none → J Dl [] s0 (upd H Dl (.lst []))) (hl : ∀ Dl acc s H', J Dl acc s H' → SqL K H' p xs)
    (hb : ∀ (Dl : Addr) (N : Hp → Prop) (T : Option R' × S → Prop) (x : Tp2 Int α) u acc s H', J Dl acc s H' → Rep K B u (Enc.enc x.b) → acc.length < sizeLine → (∀ b s' H2, J Dl (acc ++ [b]) s' H2 → T (some b, s') → N H2) → (∀ s' H2, J Dl acc s' H2 → T (none, s') → N H2) → Post (f x s) T R →
      NewT [.int x.a, u] H' fun v H1 => g v (wipe σ vs) H1 (LcT σ vs tt te Dl N))
    (hd : ∀ Dl acc s H', J Dl acc s H' → Post (k (acc, s)) P R → Q (.ref Dl) H') : LcE K [.ref p] g tt te vs σ H Q := by
  refine ⟨p, xs, rfl, hs, fun Dl hD => ?_⟩
  unfold compR at hP
  have hll : xs.length = l.length := by rw [hr.length, List.length_map]
  have hel : (enumL l).length = l.length := by unfold enumL; rw [List.length_mapIdx]
  have hz : (enumL l).length ≤ 1000000 := by
    by_cases c : (enumL l).length ≤ 1000000
    · exact c
    · unfold guardR at hP; rw [if_neg c] at hP; exact hP.elim
  unfold guardR at hP
  rw [if_pos hz] at hP
  refine lc_it (n := xs.length) walk_enum (fun i H' => ∃ acc s, J Dl acc s H' ∧ acc.length ≤ i ∧ Post ((compL ((enumL l).drop i) s f).bind fun q => k (acc ++ q.1, q.2)) P R) ⟨[], s0, h0 Dl hD, Nat.le_refl _, hP⟩ (fun i H' _ ⟨acc, s, j, _⟩ => hl Dl acc s H' j) ?_ ?_
  · rintro i v H' H2 hi ⟨acc, s, j, hn, q⟩ ⟨T, y1, y2, rfl, hT, rfl, h1, h2⟩
    cases Option.some.inj h1
    have hil : i < l.length := by omega
    have hx : (enumL l)[i]? = some ⟨(i : Int), l[i]⟩ := by
      unfold enumL
      rw [List.getElem?_mapIdx, List.getElem?_eq_getElem hil]
      rfl
    obtain ⟨u, hu, ru⟩ := hr.get (i := i) (d := Enc.enc l[i]) (by rw [List.getElem?_map, List.getElem?_eq_getElem hil]; rfl)
    have h2 : xs[i]? = some y2 := h2
    rw [h2] at hu; cases hu
    exact (hb Dl _ _ ⟨(i : Int), l[i]⟩ y2 acc s H' j ru (Nat.lt_of_le_of_lt (Nat.le_trans hn (Nat.le_trans (Nat.le_of_lt (hel.symm ▸ hil)) hz)) (by decide)) (fun b s' H2 j2 t2 => ⟨acc ++ [b], s', j2, by rw [List.length_append]; exact Nat.succ_le_succ hn, t2⟩) (fun s' H2 j2 t2 => ⟨acc, s', j2, Nat.le_succ_of_le hn, t2⟩) (q.compS hx)).2 T hT
  · rintro H' ⟨acc, s, j, _, q⟩
    rw [List.drop_eq_nil_of_le (by rw [hel, hll]; exact Nat.le_refl _)] at q
    have q2 : Post (k (acc ++ [], s)) P R := q
    rw [List.append_nil] at q2
    exact hd Dl acc s H' j q2
end
/-! # reverse, clear -/
section
variable {K : PySem.W.Frag} {B H : Hp} {Q : VK} {p : Addr} {ds : List D}
theorem h_reverse {α : Type} [Enc α] {l : List α} (w : Ex B H) (m : Mu K B H p (l.map Enc.enc)) (h : ∀ H', Stp [p] B H B H' → Mu K B H' p (l.reverse.map Enc.enc) → Q .non H') : rReverse (.ref p) [] H Q := by
  obtain ⟨xs, hp, _, rl⟩ := m.sq
  obtain ⟨s, m'⟩ := Stp.mut w m (RepL.rev (l := l) rl)
  exact ⟨p, xs, rfl, rfl, hp, h _ s m'⟩
theorem h_clear {α : Type} [Enc α] {l : List α} (w : Ex B H) (m : Mu K B H p (l.map Enc.enc)) (h : ∀ H', Stp [p] B H B H' → Mu K B H' p (([] : List α).map Enc.enc) → Q .non H') : rClear (.ref p) [] H Q := by
  obtain ⟨xs, hp, _, rl⟩ := m.sq
  obtain ⟨s, m'⟩ := Stp.mut (es := []) w m .nil
  exact ⟨p, xs, rfl, rfl, hp, h _ s m'⟩
end
theorem ExcT.toExcT {K : PySem.W.Frag} {mg : Str → Option Value} {nm : Str} {C : Addr} (T : ExcT K mg nm C) : ExcT K mg nm C := T
end Y

set_option Elab.async false
set_option linter.all false
set_option maxRecDepth 100000
set_option maxHeartbeats 4000000
namespace Y
open PySem PySem.Spec PyProof.Rows
open L2
open Enc (enc)
/-! # ints that the module names; divmod; x in a list of data -/
structure CI (mg : Str → Option Value) (nm : Str) (i : Int) : Prop where
  g : ∃ t, mg nm = Option.some (.int i t)
theorem pe_globI {X : Cx} {x : Str} {i : Int} {pos : Pos} (hg : Gl X x) (c : CI X.mg x i) (hd : (x == ("__debug__" : Str)) = false := by decide) : PE X (.Name x pos) (tC (.int i)) := by
  obtain ⟨t, h⟩ := c.g
  exact pe_glob (v := .int i) hg h ⟨t, rfl⟩ hd
theorem hu65_of {A : Around} {k : Nat} (hr : Room k A) : A.units + 65 < cLine := by have := hr.un; omega
def rDivmod : List V → Hp → VK → Prop := fun xs H Q => ∃ i j, xs = [.int i, .int j] ∧ CDiv i j ∧ ∀ p, H p = none → Q (.ref p) (upd H p (.tup [.int (i / j), .int (i % j)]))
theorem cr_divmod {X : Cx} : CallR X (.builtin "divmod") rDivmod := call_divmod
/-- x in l, of data -/
def inD (x : D) (l : List D) : Bool := (pyDs l).any fun z => PyData.eqv z (pyD x)
section
variable {K : PySem.W.Frag} {B H : Hp} {Q : VK} {x y : V} {d : D} {es : List D} {i j : Int}
theorem h_divmod (w : Ex B H) (hc : CDiv i j) (h : ∀ p B' H', Stp [] B H B' H' → Rep K B' (.ref p) (enc (⟨i / j, i % j⟩ : Tp2 Int Int)) → Q (.ref p) H') : rDivmod [.int i, .int j] H Q :=
  ⟨i, j, rfl, hc, fun p hp => h p _ _ (Stp.new w hp) (.tup (SqT.of upd_same) (.cons (.int _) (.cons (.int _) .nil)))⟩
theorem h_inD (w : Ex B H) (rx : Rep K B x d) (ry : Rep K B y (.lst es)) (o : okEq d (.lst es)) (h : Q (.bl (inD d es)) H) : rInD K x y H Q := ⟨_, _, rx.dp w o.1, ry.dp w o.2.1, o.2.2.1, o.2.2.2, h⟩
end
end Y
/-! # zip in comprehensions; str(o) by its own __str__; f-strings; texts one behind the other -/
namespace Y
open PySem PySem.Spec PyProof.Rows
open L2
open Enc (enc)
def zipL {α α' : Type} (l : List α) (m : List α') : List (Tp2 α α') := List.zipWith Tp2.mk l m
section
variable {K : PySem.W.Frag} {B H : Hp} {σ : L2.St} {Q : VK} {p p2 : Addr} {xs ys : List V} {g : TG} {tt : TT} {te : TE} {α α' β S R' : Type} {P : β → Prop} {R : Err → Prop}
def LcZ (K : PySem.W.Frag) (ws : List V) (g : TG) (tt : TT) (te : TE) (vs : List Nat) (σ : L2.St) (H : Hp) (Q : VK) : Prop := tLc (iZip K (fun _ H Q => Q ws H)) g tt te vs σ H Q
theorem h_lcZipE {vs : List Nat} {ta : TA} (h : ta σ H fun ws H1 => LcZ K ws g tt te vs σ H1 Q) : tLc (iZip K ta) g tt te vs σ H Q := h
theorem h_lcZip [Enc α] [Enc α'] {l : List α} {m : List α'} {s0 : S} {f : Tp2 α α' → S → Res (Option R' × S)} {k : List R' × S → Res β} {vs : List Nat} (hP : Post ((compR (zipL l m) s0 f).bind k) P R) (hs : SqL K H p xs) (hr : RepL K B xs (l.map Enc.enc)) (hs2 : SqL K H p2 ys) (hr2 : RepL K B ys (m.map Enc.enc))
    (J : Addr → List R' → S → Hp → Prop) (h0 : ∀ Dl, H Dl = none → J Dl [] s0 (upd H Dl (.lst []))) (hl : ∀ Dl acc s H', J Dl acc s H' → SqL K H' p xs ∧ SqL K H' p2 ys)
    (hb : ∀ (Dl : Addr) (N : Hp → Prop) (T : Option R' × S → Prop) (x : Tp2 α α') u u2 acc s H', J Dl acc s H' → Rep K B u (Enc.enc x.a) → Rep K B u2 (Enc.enc x.b) → acc.length < sizeLine → (∀ b s' H2, J Dl (acc ++ [b]) s' H2 → T (some b, s') → N H2) → (∀ s' H2, J Dl acc s' H2 → T (none, s') → N H2) → Post (f x s) T R →
      NewT [u, u2] H' fun v H1 => g v (wipe σ vs) H1 (LcT σ vs tt te Dl N))
    (hd : ∀ Dl acc s H', J Dl acc s H' → Post (k (acc, s)) P R → Q (.ref Dl) H') : LcZ K [.ref p, .ref p2] g tt te vs σ H Q := by
  refine ⟨p, p2, xs, ys, rfl, hs, hs2, fun Dl hD => ?_⟩
  unfold compR at hP
  have hll : xs.length = l.length := by rw [hr.length, List.length_map]
  have hll2 : ys.length = m.length := by rw [hr2.length, List.length_map]
  have hel : (zipL l m).length = min l.length m.length := by unfold zipL; rw [List.length_zipWith]
  have hz : (zipL l m).length ≤ 1000000 := by
    by_cases c : (zipL l m).length ≤ 1000000
    · exact c
    · unfold guardR at hP; rw [if_neg c] at hP; exact hP.elim
  unfold guardR at hP
  rw [if_pos hz] at hP
  refine lc_it (n := min xs.length ys.length) (walk_zip rfl) (fun i H' => ∃ acc s, J Dl acc s H' ∧ acc.length ≤ i ∧ Post ((compL ((zipL l m).drop i) s f).bind fun q => k (acc ++ q.1, q.2)) P R) ⟨[], s0, h0 Dl hD, Nat.le_refl _, hP⟩ (fun i H' _ ⟨acc, s, j, _⟩ => hl Dl acc s H' j) ?_ ?_
  · rintro i v H' H2 hi ⟨acc, s, j, hn, q⟩ ⟨T, y1, y2, rfl, hT, rfl, h1, h2⟩
    have h1 : xs[i]? = some y1 := h1
    have h2 : ys[i]? = some y2 := h2
    have hil : i < l.length := by omega
    have hil2 : i < m.length := by omega
    have hx : (zipL l m)[i]? = some ⟨l[i], m[i]⟩ := by
      unfold zipL
      rw [List.getElem?_zipWith, List.getElem?_eq_getElem hil, List.getElem?_eq_getElem hil2]
    obtain ⟨u, hu, ru⟩ := hr.get (i := i) (d := Enc.enc l[i]) (by rw [List.getElem?_map, List.getElem?_eq_getElem hil]; rfl)
    rw [h1] at hu; cases hu
    obtain ⟨u2, hu2, ru2⟩ := hr2.get (i := i) (d := Enc.enc m[i]) (by rw [List.getElem?_map, List.getElem?_eq_getElem hil2]; rfl)
    rw [h2] at hu2; cases hu2
    exact (hb Dl _ _ ⟨l[i], m[i]⟩ y1 y2 acc s H' j ru ru2 (Nat.lt_of_le_of_lt (Nat.le_trans hn (Nat.le_trans (by rw [hel]; omega) hz)) (by decide)) (fun b s' H2 j2 t2 => ⟨acc ++ [b], s', j2, by rw [List.length_append]; exact Nat.succ_le_succ hn, t2⟩) (fun s' H2 j2 t2 => ⟨acc, s', j2, Nat.le_succ_of_le hn, t2⟩) (q.compS hx)).2 T hT
  · rintro H' ⟨acc, s, j, _, q⟩
    rw [List.drop_eq_nil_of_le (by rw [hel, hll, hll2]; exact Nat.le_refl _)] at q
    have q2 : Post (k (acc ++ [], s)) P R := q
    rw [List.append_nil] at q2
    exact hd Dl acc s H' j q2
end
def rAddS : V → V → Hp → VK → Prop := fun x y H Q => ∃ i j, x = .str i ∧ y = .str j ∧ i.length + j.length ≤ sizeLine ∧ Q (.str (i ++ j)) H
theorem op_addS {X : Cx} : OpR X (binaryOp .Add) rAddS := op_add_str
theorem h_addS {H : Hp} {Q : VK} {i j : Str} (hz : i.length + j.length ≤ 1000000) (h : Q (.str (i ++ j)) H) : rAddS (.str i) (.str j) H Q := ⟨i, j, rfl, rfl, Nat.le_trans hz (by decide), h⟩
theorem h_fmt {te : TE} {σ : L2.St} {H : Hp} {Q : VK} (h : te σ H fun x H1 => (∃ y : Str, x = .str y ∧ y.length ≤ sizeLine ∧ Q (.str y) H1) ∨ ∃ i : Int, x = .int i ∧ i.natAbs.log2 < 1920 ∧ Q (.str (toString i)) H1) : tFmt te σ H Q := h
theorem h_js {t : TE} {ts : List TE} {acc : Str} {σ : L2.St} {H : Hp} {Q : Str → Hp → Prop} (h : t σ H fun x H1 => ∃ y : Str, x = .str y ∧ (acc ++ y).length ≤ sizeLine ∧ tJs ts (acc ++ y) σ H1 Q) : tJs (t :: ts) acc σ H Q := h
theorem h_jsS {ts : List TE} {acc y : Str} {σ : L2.St} {H : Hp} {Q : Str → Hp → Prop} (hz : (acc ++ y).length ≤ 1000000) (h : tJs ts (acc ++ y) σ H Q) : ∃ z : Str, V.str y = .str z ∧ (acc ++ z).length ≤ sizeLine ∧ tJs ts (acc ++ z) σ H Q := ⟨y, rfl, Nat.le_trans hz (by decide), h⟩
theorem h_jsN {acc : Str} {σ : L2.St} {H : Hp} {Q : Str → Hp → Prop} (h : Q acc H) : tJs [] acc σ H Q := h
def tJoin (ts : List TE) : TE := fun σ H Q => tJs ts Str.empty σ H fun out H1 => Q (.str out) H1
theorem h_join {ts : List TE} {σ : L2.St} {H : Hp} {Q : VK} (h : tJs ts Str.empty σ H fun out H1 => Q (.str out) H1) : tJoin ts σ H Q := h
/-- str(o), o of one of several classes -/
def rStrO (A : Addr → Sp → Prop) : List V → Hp → VK → Prop := fun vs H Q => ∃ (a C dx : Addr) (fs : List (Str × V)) (sp : Sp), vs = [V.ref a] ∧ H a = some (.ins C dx fs) ∧ A C sp ∧ sp [V.ref a] H (fun v H2 => ∃ y, v = .str y ∧ Q v H2) (fun _ _ _ => False)
theorem cr_strO {X : Cx} {A : Addr → Sp → Prop} {k : Nat} (hA : ∀ C sp, A C sp → MAlt X.prog X.w X.K X.mg X.base CX0 k "__str__" C sp) (hr : Room (k + 1) X.A) : CallR X (.type "str") (rStrO A) := by
  intro pins s σ H xs us Q I r h
  obtain ⟨a, C, dx, fs, sp, rfl, ea, hAC, q⟩ := h
  cases r with
  | cons r1 r2 =>
    cases r2
    obtain rfl : _ = Value.ref a := r1
    obtain ⟨f, fd, ps, c, hm, F, hb⟩ := (hA C sp hAC).ex
    obtain ⟨mA, O, _⟩ := ins_get I.hok ea
    obtain ⟨od, J, _⟩ := O.look
    have un := hr.un
    have dp := hr.dp
    refine PySem.W.kso_call (by show X.A.in1.in1.units < cLine; simp only [Around.in1]; omega) I.kIn J hm.at_ hm.fn ?_
    have hr' : Room k X.A.in1.in1 := ⟨hr.hd, by show X.A.depth + 3 * k + 5 < recursionLimit; omega, by simp only [Around.in1]; omega⟩
    have r2 : Vals [V.ref a] [Value.ref a] := .cons rfl .nil
    have hl : ([Value.ref a] ++ []).length = ps.length := F.len _ _ _ _ q
    refine wpAny_call (codeAny_mono (F.run X.A.in1.in1 X.stack s H ⟨[.ref a], []⟩ [.ref a] [V.ref a] _ _ hr' I.env0.in1.in1 (hb s [.ref a] I.kIn hl) r2 q) fun r s' hq => ?_)
    cases r with
    | error e => exact False.elim hq
    | ok fl =>
      cases fl with
      | ret u =>
        obtain ⟨v, H', I', rv, y, rfl, q2⟩ := I.after hq
        obtain ⟨t, rfl⟩ := rv
        exact ⟨.str y, H', I', ⟨t, rfl⟩, q2⟩
      | next => exact False.elim hq
      | brk => exact False.elim hq
      | cont => exact False.elim hq
theorem h_strO {A : Addr → Sp → Prop} {H : Hp} {Q : VK} {v : V} (h : ∃ (a C dx : Addr) (fs : List (Str × V)) (sp : Sp), v = .ref a ∧ H a = some (.ins C dx fs) ∧ A C sp ∧ sp [v] H (fun v H2 => ∃ y, v = .str y ∧ Q v H2) (fun _ _ _ => False)) : rStrO A [v] H Q := by
  obtain ⟨a, C, dx, fs, sp, rfl, q⟩ := h
  exact ⟨a, C, dx, fs, sp, rfl, q⟩
end Y

set_option Elab.async false
set_option linter.all false
set_option maxRecDepth 100000
set_option maxHeartbeats 4000000
namespace A
open PySem PySem.Spec PyProof.Rows L2 Y
open Y.Enc (enc)
abbrev top (i : Nat) : Stmt := PySem.Challenge.pw_lanescroll_k04_rules_told_and_valued.main.body.getD i (.Pass ⟨0, 0, 0, 0⟩)
def isWhole (d : D) (lo hi : Int) : Bool := match d with
  | .int i => decide (lo ≤ i) && decide (i ≤ hi)
  | _ => false
def m_is_whole (d : D) (lo hi : Int) : Res Bool := .ok (isWhole d lo hi)
inductive K_Rule where
  | Plain (x_worth : Int)
  | Moved (x_back : Int) (x_cell : Int) (x_add : Int)
  | Mixed (x_back : Int) (x_cell : Int) (x_other_back : Int) (x_other_cell : Int)
instance : Enc K_Rule := ⟨fun x => match x with
  | .Plain x_worth => .obj "Plain" [("worth", enc x_worth)]
  | .Moved x_back x_cell x_add => .obj "Moved" [("back", enc x_back), ("cell", enc x_cell), ("add", enc x_add)]
  | .Mixed x_back x_cell x_other_back x_other_cell => .obj "Mixed" [("back", enc x_back), ("cell", enc x_cell), ("other_back", enc x_other_back), ("other_cell", enc x_other_cell)]⟩
def f_Rule_worth (x : K_Rule) : Res Int := match x with
  | .Plain x_worth => .ok x_worth
  | .Moved .. => .stuck
  | .Mixed .. => .stuck
theorem get_Rule_worth {β : Type} {x : K_Rule} {k : Int → Res β} {P : β → Prop} {R : Err → Prop} (h : Post ((f_Rule_worth x).bind k) P R) : ∃ a, f_Rule_worth x = .ok a ∧ Post (k a) P R := by
  cases x with
  | Plain x_worth => exact ⟨_, rfl, h⟩
  | Moved x_back x_cell x_add => exact h.elim
  | Mixed x_back x_cell x_other_back x_other_cell => exact h.elim
theorem fld_Rule_worth {K : PySem.W.Frag} {mg : Str → Option Value} {B H : Hp} {v : V} {Q : VK} {x : K_Rule} {a : Int} {C_Plain : Addr} (T_Plain : KI K mg "Plain" C_Plain) (n_Plain : NoAttr K C_Plain "worth") (w : Ex B H) (r : Rep K B v (enc x)) (e : f_Rule_worth x = .ok a) (h : ∀ u, Rep K B u (enc a) → Q u H) : Fld K "worth" v H Q := by
  cases x with
  | Plain x_worth => cases e; exact h_fld w r T_Plain.toKC n_Plain lk0 h
  | Moved x_back x_cell x_add => exact nomatch e
  | Mixed x_back x_cell x_other_back x_other_cell => exact nomatch e
def f_Rule_back (x : K_Rule) : Res Int := match x with
  | .Plain .. => .stuck
  | .Moved x_back x_cell x_add => .ok x_back
  | .Mixed x_back x_cell x_other_back x_other_cell => .ok x_back
theorem get_Rule_back {β : Type} {x : K_Rule} {k : Int → Res β} {P : β → Prop} {R : Err → Prop} (h : Post ((f_Rule_back x).bind k) P R) : ∃ a, f_Rule_back x = .ok a ∧ Post (k a) P R := by
  cases x with
  | Plain x_worth => exact h.elim
  | Moved x_back x_cell x_add => exact ⟨_, rfl, h⟩
  | Mixed x_back x_cell x_other_back x_other_cell => exact ⟨_, rfl, h⟩
theorem fld_Rule_back {K : PySem.W.Frag} {mg : Str → Option Value} {B H : Hp} {v : V} {Q : VK} {x : K_Rule} {a : Int} {C_Moved C_Mixed : Addr} (T_Moved : KI K mg "Moved" C_Moved) (n_Moved : NoAttr K C_Moved "back") (T_Mixed : KI K mg "Mixed" C_Mixed) (n_Mixed : NoAttr K C_Mixed "back") (w : Ex B H) (r : Rep K B v (enc x)) (e : f_Rule_back x = .ok a) (h : ∀ u, Rep K B u (enc a) → Q u H) : Fld K "back" v H Q := by
  cases x with
  | Plain x_worth => exact nomatch e
  | Moved x_back x_cell x_add => cases e; exact h_fld w r T_Moved.toKC n_Moved lk0 h
  | Mixed x_back x_cell x_other_back x_other_cell => cases e; exact h_fld w r T_Mixed.toKC n_Mixed lk0 h
def f_Rule_cell (x : K_Rule) : Res Int := match x with
  | .Plain .. => .stuck
  | .Moved x_back x_cell x_add => .ok x_cell
  | .Mixed x_back x_cell x_other_back x_other_cell => .ok x_cell
theorem get_Rule_cell {β : Type} {x : K_Rule} {k : Int → Res β} {P : β → Prop} {R : Err → Prop} (h : Post ((f_Rule_cell x).bind k) P R) : ∃ a, f_Rule_cell x = .ok a ∧ Post (k a) P R := by
  cases x with
  | Plain x_worth => exact h.elim
  | Moved x_back x_cell x_add => exact ⟨_, rfl, h⟩
  | Mixed x_back x_cell x_other_back x_other_cell => exact ⟨_, rfl, h⟩
theorem fld_Rule_cell {K : PySem.W.Frag} {mg : Str → Option Value} {B H : Hp} {v : V} {Q : VK} {x : K_Rule} {a : Int} {C_Moved C_Mixed : Addr} (T_Moved : KI K mg "Moved" C_Moved) (n_Moved : NoAttr K C_Moved "cell") (T_Mixed : KI K mg "Mixed" C_Mixed) (n_Mixed : NoAttr K C_Mixed "cell") (w : Ex B H) (r : Rep K B v (enc x)) (e : f_Rule_cell x = .ok a) (h : ∀ u, Rep K B u (enc a) → Q u H) : Fld K "cell" v H Q := by
  cases x with
  | Plain x_worth => exact nomatch e
  | Moved x_back x_cell x_add => cases e; exact h_fld w r T_Moved.toKC n_Moved (lkS (by decide +kernel) lk0) h
  | Mixed x_back x_cell x_other_back x_other_cell => cases e; exact h_fld w r T_Mixed.toKC n_Mixed (lkS (by decide +kernel) lk0) h
def f_Rule_add (x : K_Rule) : Res Int := match x with
  | .Plain .. => .stuck
  | .Moved x_back x_cell x_add => .ok x_add
  | .Mixed .. => .stuck
theorem get_Rule_add {β : Type} {x : K_Rule} {k : Int → Res β} {P : β → Prop} {R : Err → Prop} (h : Post ((f_Rule_add x).bind k) P R) : ∃ a, f_Rule_add x = .ok a ∧ Post (k a) P R := by
  cases x with
  | Plain x_worth => exact h.elim
  | Moved x_back x_cell x_add => exact ⟨_, rfl, h⟩
  | Mixed x_back x_cell x_other_back x_other_cell => exact h.elim
theorem fld_Rule_add {K : PySem.W.Frag} {mg : Str → Option Value} {B H : Hp} {v : V} {Q : VK} {x : K_Rule} {a : Int} {C_Moved : Addr} (T_Moved : KI K mg "Moved" C_Moved) (n_Moved : NoAttr K C_Moved "add") (w : Ex B H) (r : Rep K B v (enc x)) (e : f_Rule_add x = .ok a) (h : ∀ u, Rep K B u (enc a) → Q u H) : Fld K "add" v H Q := by
  cases x with
  | Plain x_worth => exact nomatch e
  | Moved x_back x_cell x_add => cases e; exact h_fld w r T_Moved.toKC n_Moved (lkS (by decide +kernel) (lkS (by decide +kernel) lk0)) h
  | Mixed x_back x_cell x_other_back x_other_cell => exact nomatch e
def f_Rule_other_back (x : K_Rule) : Res Int := match x with
  | .Plain .. => .stuck
  | .Moved .. => .stuck
  | .Mixed x_back x_cell x_other_back x_other_cell => .ok x_other_back
theorem get_Rule_other_back {β : Type} {x : K_Rule} {k : Int → Res β} {P : β → Prop} {R : Err → Prop} (h : Post ((f_Rule_other_back x).bind k) P R) : ∃ a, f_Rule_other_back x = .ok a ∧ Post (k a) P R := by
  cases x with
  | Plain x_worth => exact h.elim
  | Moved x_back x_cell x_add => exact h.elim
  | Mixed x_back x_cell x_other_back x_other_cell => exact ⟨_, rfl, h⟩
theorem fld_Rule_other_back {K : PySem.W.Frag} {mg : Str → Option Value} {B H : Hp} {v : V} {Q : VK} {x : K_Rule} {a : Int} {C_Mixed : Addr} (T_Mixed : KI K mg "Mixed" C_Mixed) (n_Mixed : NoAttr K C_Mixed "other_back") (w : Ex B H) (r : Rep K B v (enc x)) (e : f_Rule_other_back x = .ok a) (h : ∀ u, Rep K B u (enc a) → Q u H) : Fld K "other_back" v H Q := by
  cases x with
  | Plain x_worth => exact nomatch e
  | Moved x_back x_cell x_add => exact nomatch e
  | Mixed x_back x_cell x_other_back x_other_cell => cases e; exact h_fld w r T_Mixed.toKC n_Mixed (lkS (by decide +kernel) (lkS (by decide +kernel) lk0)) h
def f_Rule_other_cell (x : K_Rule) : Res Int := match x with
  | .Plain .. => .stuck
  | .Moved .. => .stuck
  | .Mixed x_back x_cell x_other_back x_other_cell => .ok x_other_cell
theorem get_Rule_other_cell {β : Type} {x : K_Rule} {k : Int → Res β} {P : β → Prop} {R : Err → Prop} (h : Post ((f_Rule_other_cell x).bind k) P R) : ∃ a, f_Rule_other_cell x = .ok a ∧ Post (k a) P R := by
  cases x with
  | Plain x_worth => exact h.elim
  | Moved x_back x_cell x_add => exact h.elim
  | Mixed x_back x_cell x_other_back x_other_cell => exact ⟨_, rfl, h⟩
theorem fld_Rule_other_cell {K : PySem.W.Frag} {mg : Str → Option Value} {B H : Hp} {v : V} {Q : VK} {x : K_Rule} {a : Int} {C_Mixed : Addr} (T_Mixed : KI K mg "Mixed" C_Mixed) (n_Mixed : NoAttr K C_Mixed "other_cell") (w : Ex B H) (r : Rep K B v (enc x)) (e : f_Rule_other_cell x = .ok a) (h : ∀ u, Rep K B u (enc a) → Q u H) : Fld K "other_cell" v H Q := by
  cases x with
  | Plain x_worth => exact nomatch e
  | Moved x_back x_cell x_add => exact nomatch e
  | Mixed x_back x_cell x_other_back x_other_cell => cases e; exact h_fld w r T_Mixed.toKC n_Mixed (lkS (by decide +kernel) (lkS (by decide +kernel) (lkS (by decide +kernel) lk0))) h
/-! ### is_whole -/
def sp_is_whole (K : PySem.W.Frag) : Sp := fun vs H Q _ => ∃ (B : Hp) (v_thing : V) (a_thing : D) (a_low : Int) (a_high : Int), Ex B H ∧ vs = [v_thing, .int a_low, .int a_high] ∧ Rep K B v_thing (enc a_thing) ∧ Post (m_is_whole a_thing a_low a_high) (fun r => Ret K [] B H (enc r) Q) (fun _ => False)
abbrev s_is_whole : Stmt := top 4
theorem sc_is_whole : FnScope ["thing", "low", "high"] ["thing", "low", "high"] (defScope s_is_whole) := ⟨rfl, rfl, rfl, by decide +kernel, rfl, by decide +kernel, by decide +kernel⟩
/-! ### is_need -/
def m_is_need (a_back : D) (a_cell : D) : Res Bool :=
  (m_is_whole a_back 1 200).bind fun x1 => (if x1 = true then (m_is_whole a_cell 0 15).bind fun x7 => .ok x7 else .ok false)
def sp_is_need (K : PySem.W.Frag) : Sp := fun vs H Q _ => ∃ (B : Hp) (v_back : V) (a_back : D) (v_cell : V) (a_cell : D), Ex B H ∧ vs = [v_back, v_cell] ∧ Rep K B v_back (enc a_back) ∧ Rep K B v_cell (enc a_cell) ∧ Post (m_is_need a_back a_cell) (fun r => Ret K [] B H (enc r) Q) (fun _ => False)
abbrev s_is_need : Stmt := top 10
theorem sc_is_need : FnScope ["back", "cell"] ["back", "cell"] (defScope s_is_need) := ⟨rfl, rfl, rfl, by decide +kernel, rfl, by decide +kernel, by decide +kernel⟩
/-! ### Plain____init__ -/
abbrev s_Plain____init__ : Stmt := inClass (top 7) 0
theorem sc_Plain____init__ : FnScope ["self", "value"] ["self", "value"] (defScope s_Plain____init__) := ⟨rfl, rfl, rfl, by decide +kernel, rfl, by decide +kernel, by decide +kernel⟩
/-! ### Moved____init__ -/
abbrev s_Moved____init__ : Stmt := inClass (top 8) 0
theorem sc_Moved____init__ : FnScope ["self", "back", "cell", "add"] ["self", "back", "cell", "add"] (defScope s_Moved____init__) := ⟨rfl, rfl, rfl, by decide +kernel, rfl, by decide +kernel, by decide +kernel⟩
/-! ### Mixed____init__ -/
abbrev s_Mixed____init__ : Stmt := inClass (top 9) 0
theorem sc_Mixed____init__ : FnScope ["self", "back", "cell", "other_back", "other_cell"] ["self", "back", "cell", "other_back", "other_cell"] (defScope s_Mixed____init__) := ⟨rfl, rfl, rfl, by decide +kernel, rfl, by decide +kernel, by decide +kernel⟩
/-! ### rule_of -/
def m_rule_of (a_told : D) : Res K_Rule :=
  (if (isA "tuple" a_told) = true then (asT a_told).bind fun l1 => (if (decide ((l1.length : Int) = 0)) = true then .err ⟨"NoRule", []⟩ else ((asT a_told).bind fun l11 => (ixR l11 0).bind fun x18 => guardR (okEq x18 (enc ("plain" : Str))) <| (if (eqD x18 (enc ("plain" : Str))) = true then (asT a_told).bind fun l22 => (if (decide ((l22.length : Int) = 2)) = true then (asT a_told).bind fun l29 => (ixR l29 1).bind fun x36 => ((m_is_whole x36 0 255).noErr).bind fun x40 => .ok x40 else .ok false) else .ok false) : Res Bool).bind fun b46 => (if b46 = true then (asT a_told).bind fun l50 => (ixR l50 1).bind fun x57 => (asI x57).bind fun i61 => .ok (K_Rule.Plain i61) else (((asT a_told).bind fun l76 => (ixR l76 0).bind fun x83 => guardR (okEq x83 (enc ("moved" : Str))) <| (if (eqD x83 (enc ("moved" : Str))) = true then (asT a_told).bind fun l87 => (if (decide ((l87.length : Int) = 4)) = true then (asT a_told).bind fun l94 => (ixR l94 1).bind fun x101 => (asT a_told).bind fun l105 => (ixR l105 2).bind fun x112 => ((m_is_need x101 x112).noErr).bind fun x116 => .ok x116 else .ok false) else .ok false) : Res Bool).bind fun b122 => (if b122 = true then (asT a_told).bind fun l126 => (ixR l126 3).bind fun x133 => ((m_is_whole x133 0 255).noErr).bind fun x137 => (if x137 = true then (asT a_told).bind fun l143 => (ixR l143 1).bind fun x150 => (asT a_told).bind fun l154 => (ixR l154 2).bind fun x161 => (asT a_told).bind fun l165 => (ixR l165 3).bind fun x172 => (asI x150).bind fun i176 => (asI x161).bind fun i179 => (asI x172).bind fun i182 => .ok (.rt (K_Rule.Moved i176 i179 i182)) else .ok (.nx ())) else .ok (.nx ())) : Res (Fl (Unit) _)).bind (afterR fun a190 => (((asT a_told).bind fun l201 => (ixR l201 0).bind fun x208 => guardR (okEq x208 (enc ("mixed" : Str))) <| (if (eqD x208 (enc ("mixed" : Str))) = true then (asT a_told).bind fun l212 => .ok (decide ((l212.length : Int) = 5)) else .ok false) : Res Bool).bind fun b219 => (if b219 = true then ((asT a_told).bind fun l226 => (ixR l226 1).bind fun x233 => (asT a_told).bind fun l237 => (ixR l237 2).bind fun x244 => ((m_is_need x233 x244).noErr).bind fun x248 => (if x248 = true then (asT a_told).bind fun l254 => (ixR l254 3).bind fun x261 => (asT a_told).bind fun l265 => (ixR l265 4).bind fun x272 => ((m_is_need x261 x272).noErr).bind fun x276 => .ok x276 else .ok false) : Res Bool).bind fun b282 => (if b282 = true then (asT a_told).bind fun l286 => (ixR l286 1).bind fun x293 => (asT a_told).bind fun l297 => (ixR l297 2).bind fun x304 => (asT a_told).bind fun l308 => (ixR l308 3).bind fun x315 => (asT a_told).bind fun l319 => (ixR l319 4).bind fun x326 => (asI x293).bind fun i330 => (asI x304).bind fun i333 => (asI x315).bind fun i336 => (asI x326).bind fun i339 => .ok (.rt (K_Rule.Mixed i330 i333 i336 i339)) else .ok (.nx ())) else .ok (.nx ())) : Res (Fl (Unit) _)).bind (afterR fun a347 => .err ⟨"NoRule", []⟩)))) else .err ⟨"NoRule", []⟩)
def sp_rule_of (K : PySem.W.Frag) (mg : Str → Option Value) : Sp := fun vs H Q E => ∃ (B : Hp) (v_told : V) (a_told : D), Ex B H ∧ vs = [v_told] ∧ Rep K B v_told (enc a_told) ∧ Post (m_rule_of a_told) (fun r => Ret K [] B H (enc r) Q) (fun e => Rai mg [] B H e E)
abbrev s_rule_of : Stmt := top 11
theorem sc_rule_of : FnScope ["told"] ["told"] (defScope s_rule_of) := ⟨rfl, rfl, rfl, by decide +kernel, rfl, by decide +kernel, by decide +kernel⟩
/-! ### _law_cell_at -/
def l_cell_at (a_script : (List Int)) (a_k : Int) : Res Int :=
  (if (decide (a_k < (a_script.length : Int))) = true then (ixR a_script a_k).bind fun x9 => .ok x9 else guardR (okEq (enc a_script) (enc ([] : List D))) <| (if (eqD (enc a_script) (enc ([] : List D))) = true then .ok a_k else guardR (0 < (a_script.length : Int)) <| (ixR a_script (a_k % (a_script.length : Int))).bind fun x30 => .ok (x30 + (104729 * a_k))))
def sp__law_cell_at (K : PySem.W.Frag) : Sp := fun vs H Q _ => ∃ (B : Hp) (v_script : V) (a_script : (List Int)) (a_k : Int), Ex B H ∧ vs = [v_script, .int a_k] ∧ Bor K B H [] v_script (a_script.map enc) ∧ Post (l_cell_at a_script a_k) (fun r => Ret K [] B H (enc r) Q) (fun _ => False)
abbrev s__law_cell_at : Stmt := top 13
theorem sc__law_cell_at : FnScope ["_law_script", "_law_k"] ["_law_script", "_law_k"] (defScope s__law_cell_at) := ⟨rfl, rfl, rfl, by decide +kernel, rfl, by decide +kernel, by decide +kernel⟩
/-! ### _law_well -/
def l_well (a_script : (List Int)) (a_k : Int) : Res (List Int) :=
  (l_cell_at a_script a_k).bind fun x1 => .ok ([x1, (x1 % 2147483647), 0] : List Int)
def sp__law_well (K : PySem.W.Frag) : Sp := fun vs H Q _ => ∃ (B : Hp) (v_script : V) (a_script : (List Int)) (a_k : Int), Ex B H ∧ vs = [v_script, .int a_k] ∧ Bor K B H [] v_script (a_script.map enc) ∧ Post (l_well a_script a_k) (fun r => RetF K [] B H (r.map enc) Q) (fun _ => False)
abbrev s__law_well : Stmt := top 14
theorem sc__law_well : FnScope ["_law_script", "_law_k", "_law_there"] ["_law_script", "_law_k"] (defScope s__law_well) := ⟨rfl, rfl, rfl, by decide +kernel, rfl, by decide +kernel, by decide +kernel⟩
/-! ### _law_draw -/
def l_draw (a_well_here : (List Int)) (a_many : Int) : Res (Int × (List Int)) :=
  (ixR a_well_here 0).bind fun x5 => (if (decide (1000000000000000000 ≤ x5)) = true then (ixR a_well_here 0).bind fun x13 => guardR (0 < a_many) <| lt ((x13 % a_many) : Int) fun x17 => (ixR a_well_here 0).bind fun x22 => guardR (CDivW x22 a_many) <| (setR a_well_here 0 (x22 / a_many)).bind fun x26 => .ok (x17, x26) else (ixR a_well_here 2).bind fun x35 => (setR a_well_here 2 (x35 + 1)).bind fun x39 => (ixR x39 1).bind fun x48 => (ixR x39 2).bind fun x56 => lt (((((x48 + (7919 * x56)) + 1) * 48271) % 2147483647) : Int) fun x60 => guardR (CMulW x60 ((x60 / 1009) + 69621)) <| lt (((x60 * ((x60 / 1009) + 69621)) % 2147483647) : Int) fun x61 => guardR (CMulW x61 ((x61 / 2003) + 40692)) <| guardR (0 < a_many) <| .ok ((((x61 * ((x61 / 2003) + 40692)) % 2147483399) % a_many), x39))
def sp__law_draw (K : PySem.W.Frag) : Sp := fun vs H Q _ => ∃ (B : Hp) (p_well_here : Addr) (a_well_here : (List Int)) (a_many : Int), Ex B H ∧ vs = [.ref p_well_here, .int a_many] ∧ Mu K B H p_well_here (a_well_here.map enc) ∧ Post (l_draw a_well_here a_many) (fun r => RetM K p_well_here B H (enc r.1) (r.2.map enc) Q) (fun _ => False)
abbrev s__law_draw : Stmt := top 15
theorem sc__law_draw : FnScope ["_law_well_here", "_law_many", "_law_found", "_law_number"] ["_law_well_here", "_law_many"] (defScope s__law_draw) := ⟨rfl, rfl, rfl, by decide +kernel, rfl, by decide +kernel, by decide +kernel⟩
/-! ### _law_whole -/
def l_whole (a_thing : D) : Res Bool :=
  (if (isA "int" a_thing) = true then .ok (!(isA "bool" a_thing)) else .ok false)
def sp__law_whole (K : PySem.W.Frag) : Sp := fun vs H Q _ => ∃ (B : Hp) (v_thing : V) (a_thing : D), Ex B H ∧ vs = [v_thing] ∧ Rep K B v_thing (enc a_thing) ∧ Post (l_whole a_thing) (fun r => Ret K [] B H (enc r) Q) (fun _ => False)
abbrev s__law_whole : Stmt := top 16
theorem sc__law_whole : FnScope ["_law_thing"] ["_law_thing"] (defScope s__law_whole) := ⟨rfl, rfl, rfl, by decide +kernel, rfl, by decide +kernel, by decide +kernel⟩
/-! ### _law_edge -/
def l_edge (a_well_here : (List Int)) (a_low : Int) (a_high : Int) : Res (Int × (List Int)) :=
  (l_draw a_well_here 6).bind fun x1 => (if (decide (x1.1 = 0)) = true then .ok (a_low, x1.2) else (if (decide (x1.1 = 1)) = true then .ok (a_high, x1.2) else (l_draw x1.2 ((a_high - a_low) + 1)).bind fun x7 => .ok ((a_low + x7.1), x7.2)))
def sp__law_edge (K : PySem.W.Frag) : Sp := fun vs H Q _ => ∃ (B : Hp) (p_well_here : Addr) (a_well_here : (List Int)) (a_low : Int) (a_high : Int), Ex B H ∧ vs = [.ref p_well_here, .int a_low, .int a_high] ∧ Mu K B H p_well_here (a_well_here.map enc) ∧ Post (l_edge a_well_here a_low a_high) (fun r => RetM K p_well_here B H (enc r.1) (r.2.map enc) Q) (fun _ => False)
abbrev s__law_edge : Stmt := top 17
theorem sc__law_edge : FnScope ["_law_well_here", "_law_low", "_law_high", "_law_way"] ["_law_well_here", "_law_low", "_law_high"] (defScope s__law_edge) := ⟨rfl, rfl, rfl, by decide +kernel, rfl, by decide +kernel, by decide +kernel⟩
/-! ### _law_rule -/
def l_rule (a_well_here : (List Int)) : Res (D × (List Int)) :=
  (l_draw a_well_here 3).bind fun x1 => (l_draw x1.2 4).bind fun x7 => lt ((decide (x7.1 = 0)) : Bool) fun x13 => (if (decide (x1.1 = 0)) = true then (l_edge x7.2 0 255).bind fun x14 => .ok ((enc (⟨("plain" : Str), x14.1⟩ : (Tp2 Str Int))), x14.2) else (l_edge x7.2 1 200).bind fun x25 => (l_edge x25.2 0 15).bind fun x31 => (if (decide (x1.1 = 1)) = true then (l_edge x31.2 0 255).bind fun x37 => .ok ((enc (⟨("moved" : Str), x25.1, x31.1, x37.1⟩ : (Tp4 Str Int Int Int))), x37.2) else (if x13 = true then .ok ((enc (⟨("mixed" : Str), x25.1, x31.1, x25.1, x31.1⟩ : (Tp5 Str Int Int Int Int))), x31.2) else (l_edge x31.2 1 200).bind fun x53 => (l_edge x53.2 0 15).bind fun x59 => .ok ((enc (⟨("mixed" : Str), x25.1, x31.1, x53.1, x59.1⟩ : (Tp5 Str Int Int Int Int))), x59.2))))
def sp__law_rule (K : PySem.W.Frag) : Sp := fun vs H Q _ => ∃ (B : Hp) (p_well_here : Addr) (a_well_here : (List Int)), Ex B H ∧ vs = [.ref p_well_here] ∧ Mu K B H p_well_here (a_well_here.map enc) ∧ Post (l_rule a_well_here) (fun r => RetM K p_well_here B H (enc r.1) (r.2.map enc) Q) (fun _ => False)
abbrev s__law_rule : Stmt := top 18
theorem sc__law_rule : FnScope ["_law_well_here", "_law_way", "_law_alike", "_law_first", "_law_there"] ["_law_well_here"] (defScope s__law_rule) := ⟨rfl, rfl, rfl, by decide +kernel, rfl, by decide +kernel, by decide +kernel⟩
/-! ### _law_needs -/
def l_needs (a_row : D) : Res (List (Tp2 Int Int)) :=
  (asT a_row).bind fun l1 => (ixR l1 0).bind fun x8 => guardR (okEq x8 (enc ("plain" : Str))) <| (if (eqD x8 (enc ("plain" : Str))) = true then .ok ([] : List (Tp2 Int Int)) else (asT a_row).bind fun l17 => (ixR l17 0).bind fun x24 => guardR (okEq x24 (enc ("moved" : Str))) <| (if (eqD x24 (enc ("moved" : Str))) = true then (asT a_row).bind fun l28 => (ixR l28 1).bind fun x35 => (asT a_row).bind fun l39 => (ixR l39 2).bind fun x46 => (asI x35).bind fun i50 => (asI x46).bind fun i53 => .ok ([(⟨i50, i53⟩ : (Tp2 Int Int))] : List (Tp2 Int Int)) else (asT a_row).bind fun l66 => (ixR l66 1).bind fun x73 => (asT a_row).bind fun l77 => (ixR l77 2).bind fun x84 => (asI x73).bind fun i88 => (asI x84).bind fun i91 => (asT a_row).bind fun l99 => (ixR l99 3).bind fun x106 => (asT a_row).bind fun l110 => (ixR l110 4).bind fun x117 => (asI x106).bind fun i121 => (asI x117).bind fun i124 => .ok ([(⟨i88, i91⟩ : (Tp2 Int Int)), (⟨i121, i124⟩ : (Tp2 Int Int))] : List (Tp2 Int Int))))
def sp__law_needs (K : PySem.W.Frag) : Sp := fun vs H Q _ => ∃ (B : Hp) (v_row : V) (a_row : D), Ex B H ∧ vs = [v_row] ∧ Rep K B v_row (enc a_row) ∧ Post (l_needs a_row) (fun r => Ret K [] B H (enc r) Q) (fun _ => False)
abbrev s__law_needs : Stmt := top 19
theorem sc__law_needs : FnScope ["_law_row"] ["_law_row"] (defScope s__law_needs) := ⟨rfl, rfl, rfl, by decide +kernel, rfl, by decide +kernel, by decide +kernel⟩
/-! ### _law_worth -/
def l_worth (a_row : D) (a_found : (List Int)) : Res Int :=
  (asT a_row).bind fun l1 => (ixR l1 0).bind fun x8 => guardR (okEq x8 (enc ("plain" : Str))) <| (if (eqD x8 (enc ("plain" : Str))) = true then (asT a_row).bind fun l12 => (ixR l12 1).bind fun x19 => (asI x19).bind fun i23 => .ok i23 else (asT a_row).bind fun l26 => (ixR l26 0).bind fun x33 => guardR (okEq x33 (enc ("moved" : Str))) <| (if (eqD x33 (enc ("moved" : Str))) = true then (ixR a_found 0).bind fun x41 => (asT a_row).bind fun l45 => (ixR l45 3).bind fun x52 => (asI x52).bind fun i56 => .ok ((x41 + i56) % 256) else (ixR a_found 0).bind fun x63 => (ixR a_found 1).bind fun x71 => .ok ((x63 + x71) / 2)))
def sp__law_worth (K : PySem.W.Frag) : Sp := fun vs H Q _ => ∃ (B : Hp) (v_row : V) (a_row : D) (v_found : V) (a_found : (List Int)), Ex B H ∧ vs = [v_row, v_found] ∧ Rep K B v_row (enc a_row) ∧ Rep K B v_found (enc a_found) ∧ Post (l_worth a_row a_found) (fun r => Ret K [] B H (enc r) Q) (fun _ => False)
abbrev s__law_worth : Stmt := top 20
theorem sc__law_worth : FnScope ["_law_row", "_law_found"] ["_law_row", "_law_found"] (defScope s__law_worth) := ⟨rfl, rfl, rfl, by decide +kernel, rfl, by decide +kernel, by decide +kernel⟩
/-! ### _law_word -/
def l_word (a_row : D) : Res Str :=
  (asT a_row).bind fun l1 => (ixR l1 0).bind fun x8 => guardR (okEq x8 (enc ("plain" : Str))) <| (if (eqD x8 (enc ("plain" : Str))) = true then (asT a_row).bind fun l12 => (ixR l12 1).bind fun x19 => (asI x19).bind fun i23 => guardR (i23.natAbs.log2 < 1920) <| .ok (toString i23 : Str) else (asT a_row).bind fun l26 => (ixR l26 0).bind fun x33 => guardR (okEq x33 (enc ("moved" : Str))) <| (if (eqD x33 (enc ("moved" : Str))) = true then (asT a_row).bind fun l37 => (ixR l37 1).bind fun x44 => (asI x44).bind fun i48 => guardR (i48.natAbs.log2 < 1920) <| guardR (Str.length (toString i48 : Str) + Str.length (":" : Str) ≤ 1000000) <| (asT a_row).bind fun l51 => (ixR l51 2).bind fun x58 => (asI x58).bind fun i62 => guardR (i62.natAbs.log2 < 1920) <| guardR (Str.length ((toString i48 : Str) ++ (":" : Str) : Str) + Str.length (toString i62 : Str) ≤ 1000000) <| guardR (Str.length (((toString i48 : Str) ++ (":" : Str) : Str) ++ (toString i62 : Str) : Str) + Str.length ("+" : Str) ≤ 1000000) <| (asT a_row).bind fun l65 => (ixR l65 3).bind fun x72 => (asI x72).bind fun i76 => guardR (i76.natAbs.log2 < 1920) <| guardR (Str.length ((((toString i48 : Str) ++ (":" : Str) : Str) ++ (toString i62 : Str) : Str) ++ ("+" : Str) : Str) + Str.length (toString i76 : Str) ≤ 1000000) <| .ok (((((toString i48 : Str) ++ (":" : Str) : Str) ++ (toString i62 : Str) : Str) ++ ("+" : Str) : Str) ++ (toString i76 : Str) : Str) else (asT a_row).bind fun l79 => (ixR l79 1).bind fun x86 => (asI x86).bind fun i90 => guardR (i90.natAbs.log2 < 1920) <| guardR (Str.length (toString i90 : Str) + Str.length (":" : Str) ≤ 1000000) <| (asT a_row).bind fun l93 => (ixR l93 2).bind fun x100 => (asI x100).bind fun i104 => guardR (i104.natAbs.log2 < 1920) <| guardR (Str.length ((toString i90 : Str) ++ (":" : Str) : Str) + Str.length (toString i104 : Str) ≤ 1000000) <| guardR (Str.length (((toString i90 : Str) ++ (":" : Str) : Str) ++ (toString i104 : Str) : Str) + Str.length ("/" : Str) ≤ 1000000) <| (asT a_row).bind fun l107 => (ixR l107 3).bind fun x114 => (asI x114).bind fun i118 => guardR (i118.natAbs.log2 < 1920) <| guardR (Str.length ((((toString i90 : Str) ++ (":" : Str) : Str) ++ (toString i104 : Str) : Str) ++ ("/" : Str) : Str) + Str.length (toString i118 : Str) ≤ 1000000) <| guardR (Str.length (((((toString i90 : Str) ++ (":" : Str) : Str) ++ (toString i104 : Str) : Str) ++ ("/" : Str) : Str) ++ (toString i118 : Str) : Str) + Str.length (":" : Str) ≤ 1000000) <| (asT a_row).bind fun l121 => (ixR l121 4).bind fun x128 => (asI x128).bind fun i132 => guardR (i132.natAbs.log2 < 1920) <| guardR (Str.length ((((((toString i90 : Str) ++ (":" : Str) : Str) ++ (toString i104 : Str) : Str) ++ ("/" : Str) : Str) ++ (toString i118 : Str) : Str) ++ (":" : Str) : Str) + Str.length (toString i132 : Str) ≤ 1000000) <| .ok (((((((toString i90 : Str) ++ (":" : Str) : Str) ++ (toString i104 : Str) : Str) ++ ("/" : Str) : Str) ++ (toString i118 : Str) : Str) ++ (":" : Str) : Str) ++ (toString i132 : Str) : Str)))
def sp__law_word (K : PySem.W.Frag) : Sp := fun vs H Q _ => ∃ (B : Hp) (v_row : V) (a_row : D), Ex B H ∧ vs = [v_row] ∧ Rep K B v_row (enc a_row) ∧ Post (l_word a_row) (fun r => Ret K [] B H (enc r) Q) (fun _ => False)
abbrev s__law_word : Stmt := top 21
theorem sc__law_word : FnScope ["_law_row"] ["_law_row"] (defScope s__law_word) := ⟨rfl, rfl, rfl, by decide +kernel, rfl, by decide +kernel, by decide +kernel⟩
/-! ### _law_by_name -/
def l_by_name (a_row : D) : Res K_Rule :=
  (asT a_row).bind fun l1 => (ixR l1 0).bind fun x8 => guardR (okEq x8 (enc ("plain" : Str))) <| (if (eqD x8 (enc ("plain" : Str))) = true then (asT a_row).bind fun l12 => (ixR l12 1).bind fun x19 => (asI x19).bind fun i23 => .ok (K_Rule.Plain i23) else (asT a_row).bind fun l31 => (ixR l31 0).bind fun x38 => guardR (okEq x38 (enc ("moved" : Str))) <| (if (eqD x38 (enc ("moved" : Str))) = true then (asT a_row).bind fun l42 => (ixR l42 3).bind fun x49 => (asT a_row).bind fun l53 => (ixR l53 1).bind fun x60 => (asT a_row).bind fun l64 => (ixR l64 2).bind fun x71 => (asI x60).bind fun i75 => (asI x71).bind fun i78 => (asI x49).bind fun i81 => .ok (K_Rule.Moved i75 i78 i81) else (asT a_row).bind fun l89 => (ixR l89 1).bind fun x96 => (asT a_row).bind fun l100 => (ixR l100 2).bind fun x107 => (asT a_row).bind fun l111 => (ixR l111 4).bind fun x118 => (asT a_row).bind fun l122 => (ixR l122 3).bind fun x129 => (asI x96).bind fun i133 => (asI x107).bind fun i136 => (asI x129).bind fun i139 => (asI x118).bind fun i142 => .ok (K_Rule.Mixed i133 i136 i139 i142)))
def sp__law_by_name (K : PySem.W.Frag) : Sp := fun vs H Q _ => ∃ (B : Hp) (v_row : V) (a_row : D), Ex B H ∧ vs = [v_row] ∧ Rep K B v_row (enc a_row) ∧ Post (l_by_name a_row) (fun r => Ret K [] B H (enc r) Q) (fun _ => False)
abbrev s__law_by_name : Stmt := top 22
theorem sc__law_by_name : FnScope ["_law_row"] ["_law_row"] (defScope s__law_by_name) := ⟨rfl, rfl, rfl, by decide +kernel, rfl, by decide +kernel, by decide +kernel⟩
/-! ### _law_of_its_class -/
def l_of_its_class (a_rule_here : K_Rule) (a_row : D) : Res Bool :=
  (isCR [("Mixed", true), ("Moved", true), ("Plain", true)] (enc a_rule_here)).bind fun b1 => (if b1 = true then (asT a_row).bind fun l3 => (ixR l3 0).bind fun x10 => guardR (okEq x10 (enc ("plain" : Str))) <| (if (eqD x10 (enc ("plain" : Str))) = true then (isCR [("Mixed", false), ("Moved", false), ("Plain", true)] (enc a_rule_here)).bind fun b14 => .ok b14 else (asT a_row).bind fun l16 => (ixR l16 0).bind fun x23 => guardR (okEq x23 (enc ("moved" : Str))) <| (if (eqD x23 (enc ("moved" : Str))) = true then (isCR [("Mixed", false), ("Moved", true), ("Plain", false)] (enc a_rule_here)).bind fun b27 => .ok b27 else (isCR [("Mixed", true), ("Moved", false), ("Plain", false)] (enc a_rule_here)).bind fun b29 => .ok b29)) else .ok false)
def sp__law_of_its_class (K : PySem.W.Frag) : Sp := fun vs H Q _ => ∃ (B : Hp) (v_rule_here : V) (a_rule_here : K_Rule) (v_row : V) (a_row : D), Ex B H ∧ vs = [v_rule_here, v_row] ∧ Rep K B v_rule_here (enc a_rule_here) ∧ Rep K B v_row (enc a_row) ∧ Post (l_of_its_class a_rule_here a_row) (fun r => Ret K [] B H (enc r) Q) (fun _ => False)
abbrev s__law_of_its_class : Stmt := top 23
theorem sc__law_of_its_class : FnScope ["_law_rule_here", "_law_row"] ["_law_rule_here", "_law_row"] (defScope s__law_of_its_class) := ⟨rfl, rfl, rfl, by decide +kernel, rfl, by decide +kernel, by decide +kernel⟩
/-! ### _law_numbers -/
def l_numbers (a_row : D) (a_wanted : D) : Res Bool :=
  (if (isA "tuple" a_row) = true then guardR (okEq a_row a_wanted) <| (if (!(eqD a_row a_wanted)) = true then .ok false else (asT a_row).bind fun l1 => (compR (l1) (() : Unit) (fun x11 (a15 : Unit) => ((l_whole x11).bind fun x30 => (if x30 = true then .ok true else .ok (isA "str" x11)) : Res (Bool)).bind fun a36 => .ok (some a36, ()))).bind <| un2 fun acc14 a15 => .ok (acc14.all id)) else .ok false)
def sp__law_numbers (K : PySem.W.Frag) : Sp := fun vs H Q _ => ∃ (B : Hp) (v_row : V) (a_row : D) (v_wanted : V) (a_wanted : D), Ex B H ∧ vs = [v_row, v_wanted] ∧ Rep K B v_row (enc a_row) ∧ Rep K B v_wanted (enc a_wanted) ∧ Post (l_numbers a_row a_wanted) (fun r => Ret K [] B H (enc r) Q) (fun _ => False)
abbrev s__law_numbers : Stmt := top 24
theorem sc__law_numbers : FnScope ["_law_row", "_law_wanted", "_law_one"] ["_law_row", "_law_wanted"] (defScope s__law_numbers) := ⟨rfl, rfl, rfl, by decide +kernel, rfl, by decide +kernel, by decide +kernel⟩
/-! ### _law_pairs -/
def l_pairs (a_found : (List (Tp2 Int Int))) (a_wanted : (List (Tp2 Int Int))) : Res Bool :=
  (if (isA "list" (enc a_found)) = true then (if (!decide ((a_found.length : Int) = (a_wanted.length : Int))) = true then .ok false else (compR (zipL a_found a_wanted) (() : Unit) (fun x24 (a28 : Unit) => (l_numbers (enc x24.a) (enc x24.b)).bind fun x53 => .ok (some x53, ()))).bind <| un2 fun acc27 a28 => .ok (acc27.all id)) else .ok false)
def sp__law_pairs (K : PySem.W.Frag) : Sp := fun vs H Q _ => ∃ (B : Hp) (v_found : V) (a_found : (List (Tp2 Int Int))) (v_wanted : V) (a_wanted : (List (Tp2 Int Int))), Ex B H ∧ vs = [v_found, v_wanted] ∧ Bor K B H [] v_found (a_found.map enc) ∧ Rep K B v_wanted (enc a_wanted) ∧ Post (l_pairs a_found a_wanted) (fun r => Ret K [] B H (enc r) Q) (fun _ => False)
abbrev s__law_pairs : Stmt := top 25
theorem sc__law_pairs : FnScope ["_law_found", "_law_wanted", "_law_one", "_law_two"] ["_law_found", "_law_wanted"] (defScope s__law_pairs) := ⟨rfl, rfl, rfl, by decide +kernel, rfl, by decide +kernel, by decide +kernel⟩
/-! ### Plain__needs -/
def m_Plain__needs (s_worth : Int) : Res (List (Tp2 Int Int)) :=
  .ok ([] : List (Tp2 Int Int))
def sp_Plain__needs (K : PySem.W.Frag) : Sp := fun vs H Q _ => ∃ (B : Hp) (v_self : V) (s_worth : Int), Ex B H ∧ vs = [v_self] ∧ Rep K B v_self (enc (K_Rule.Plain s_worth)) ∧ Post (m_Plain__needs s_worth) (fun r => RetF K [] B H (r.map enc) Q) (fun _ => False)
abbrev s_Plain__needs : Stmt := inClass (top 6) 1
theorem sc_Plain__needs : FnScope ["self"] ["self"] (defScope s_Plain__needs) := ⟨rfl, rfl, rfl, by decide +kernel, rfl, by decide +kernel, by decide +kernel⟩
/-! ### Moved__needs -/
def m_Moved__needs (s_back : Int) (s_cell : Int) (s_add : Int) : Res (List (Tp2 Int Int)) :=
  .ok ([(⟨s_back, s_cell⟩ : (Tp2 Int Int))] : List (Tp2 Int Int))
def sp_Moved__needs (K : PySem.W.Frag) : Sp := fun vs H Q _ => ∃ (B : Hp) (v_self : V) (s_back : Int) (s_cell : Int) (s_add : Int), Ex B H ∧ vs = [v_self] ∧ Rep K B v_self (enc (K_Rule.Moved s_back s_cell s_add)) ∧ Post (m_Moved__needs s_back s_cell s_add) (fun r => RetF K [] B H (r.map enc) Q) (fun _ => False)
abbrev s_Moved__needs : Stmt := inClass (top 8) 2
theorem sc_Moved__needs : FnScope ["self"] ["self"] (defScope s_Moved__needs) := ⟨rfl, rfl, rfl, by decide +kernel, rfl, by decide +kernel, by decide +kernel⟩
/-! ### Mixed__needs -/
def m_Mixed__needs (s_back : Int) (s_cell : Int) (s_other_back : Int) (s_other_cell : Int) : Res (List (Tp2 Int Int)) :=
  .ok ([(⟨s_back, s_cell⟩ : (Tp2 Int Int)), (⟨s_other_back, s_other_cell⟩ : (Tp2 Int Int))] : List (Tp2 Int Int))
def sp_Mixed__needs (K : PySem.W.Frag) : Sp := fun vs H Q _ => ∃ (B : Hp) (v_self : V) (s_back : Int) (s_cell : Int) (s_other_back : Int) (s_other_cell : Int), Ex B H ∧ vs = [v_self] ∧ Rep K B v_self (enc (K_Rule.Mixed s_back s_cell s_other_back s_other_cell)) ∧ Post (m_Mixed__needs s_back s_cell s_other_back s_other_cell) (fun r => RetF K [] B H (r.map enc) Q) (fun _ => False)
abbrev s_Mixed__needs : Stmt := inClass (top 9) 2
theorem sc_Mixed__needs : FnScope ["self"] ["self"] (defScope s_Mixed__needs) := ⟨rfl, rfl, rfl, by decide +kernel, rfl, by decide +kernel, by decide +kernel⟩
def m_Rule__needs (x : K_Rule) : Res (List (Tp2 Int Int)) := match x with
  | .Plain x_worth => m_Plain__needs x_worth 
  | .Moved x_back x_cell x_add => m_Moved__needs x_back x_cell x_add 
  | .Mixed x_back x_cell x_other_back x_other_cell => m_Mixed__needs x_back x_cell x_other_back x_other_cell 
def A_Rule__needs (K : PySem.W.Frag) (mg : Str → Option Value) (C_Plain C_Moved C_Mixed : Addr) (C : Addr) (sp : Sp) : Prop := (C = C_Plain ∧ sp = sp_Plain__needs K) ∨ (C = C_Moved ∧ sp = sp_Moved__needs K) ∨ (C = C_Mixed ∧ sp = sp_Mixed__needs K)
theorem disp_Rule__needs {K : PySem.W.Frag} {mg : Str → Option Value} {B H : Hp} {v : V} {x : K_Rule} {C_Plain C_Moved C_Mixed : Addr} (T_Plain : KI K mg "Plain" C_Plain) (T_Moved : KI K mg "Moved" C_Moved) (T_Mixed : KI K mg "Mixed" C_Mixed) (w : Ex B H) (r : Rep K B v (enc x)) : ∃ a C dx fs sp, v = .ref a ∧ H a = some (.ins C dx fs) ∧ A_Rule__needs K mg C_Plain C_Moved C_Mixed C sp ∧ fs.lookup ("needs" : Str) = none ∧ ∀ {B2 H2 : Hp} {Q : VK} {E : XK}, Ex B2 H2 → Rep K B2 v (enc x) → Post (m_Rule__needs x ) (fun r => RetF K [] B2 H2 (r.map enc) Q) (fun _ => False) → sp (v :: []) H2 Q E := by
  cases x with
  | Plain x_worth =>
    obtain ⟨p, dx, fs, rfl, hp, rf⟩ := r.ins w T_Plain.toKC
    exact ⟨p, C_Plain, dx, fs, sp_Plain__needs K, rfl, hp, .inl ⟨rfl, rfl⟩, rf.none (lkN (by decide +kernel) lkE), fun {B2 H2 Q E} w2 r2   P => ⟨B2, _, x_worth, w2, rfl, r2, P⟩⟩
  | Moved x_back x_cell x_add =>
    obtain ⟨p, dx, fs, rfl, hp, rf⟩ := r.ins w T_Moved.toKC
    exact ⟨p, C_Moved, dx, fs, sp_Moved__needs K, rfl, hp, .inr (.inl ⟨rfl, rfl⟩), rf.none (lkN (by decide +kernel) (lkN (by decide +kernel) (lkN (by decide +kernel) lkE))), fun {B2 H2 Q E} w2 r2   P => ⟨B2, _, x_back, x_cell, x_add, w2, rfl, r2, P⟩⟩
  | Mixed x_back x_cell x_other_back x_other_cell =>
    obtain ⟨p, dx, fs, rfl, hp, rf⟩ := r.ins w T_Mixed.toKC
    exact ⟨p, C_Mixed, dx, fs, sp_Mixed__needs K, rfl, hp, .inr (.inr (⟨rfl, rfl⟩)), rf.none (lkN (by decide +kernel) (lkN (by decide +kernel) (lkN (by decide +kernel) (lkN (by decide +kernel) lkE)))), fun {B2 H2 Q E} w2 r2   P => ⟨B2, _, x_back, x_cell, x_other_back, x_other_cell, w2, rfl, r2, P⟩⟩
/-! ### Plain__value -/
def m_Plain__value (s_worth : Int) (a_found : (List Int)) : Res Int :=
  .ok s_worth
def sp_Plain__value (K : PySem.W.Frag) : Sp := fun vs H Q _ => ∃ (B : Hp) (v_self : V) (s_worth : Int) (v_found : V) (a_found : (List Int)), Ex B H ∧ vs = [v_self, v_found] ∧ Rep K B v_self (enc (K_Rule.Plain s_worth)) ∧ Bor K B H [] v_found (a_found.map enc) ∧ Post (m_Plain__value s_worth a_found) (fun r => Ret K [] B H (enc r) Q) (fun _ => False)
abbrev s_Plain__value : Stmt := inClass (top 7) 2
theorem sc_Plain__value : FnScope ["self", "found"] ["self", "found"] (defScope s_Plain__value) := ⟨rfl, rfl, rfl, by decide +kernel, rfl, by decide +kernel, by decide +kernel⟩
/-! ### Moved__value -/
def m_Moved__value (s_back : Int) (s_cell : Int) (s_add : Int) (a_found : (List Int)) : Res Int :=
  (ixR a_found 0).bind fun x5 => .ok ((x5 + s_add) % 256)
def sp_Moved__value (K : PySem.W.Frag) : Sp := fun vs H Q _ => ∃ (B : Hp) (v_self : V) (s_back : Int) (s_cell : Int) (s_add : Int) (v_found : V) (a_found : (List Int)), Ex B H ∧ vs = [v_self, v_found] ∧ Rep K B v_self (enc (K_Rule.Moved s_back s_cell s_add)) ∧ Bor K B H [] v_found (a_found.map enc) ∧ Post (m_Moved__value s_back s_cell s_add a_found) (fun r => Ret K [] B H (enc r) Q) (fun _ => False)
abbrev s_Moved__value : Stmt := inClass (top 8) 3
theorem sc_Moved__value : FnScope ["self", "found"] ["self", "found"] (defScope s_Moved__value) := ⟨rfl, rfl, rfl, by decide +kernel, rfl, by decide +kernel, by decide +kernel⟩
/-! ### Mixed__value -/
def m_Mixed__value (s_back : Int) (s_cell : Int) (s_other_back : Int) (s_other_cell : Int) (a_found : (List Int)) : Res Int :=
  .ok (a_found.sum / 2)
def sp_Mixed__value (K : PySem.W.Frag) : Sp := fun vs H Q _ => ∃ (B : Hp) (v_self : V) (s_back : Int) (s_cell : Int) (s_other_back : Int) (s_other_cell : Int) (v_found : V) (a_found : (List Int)), Ex B H ∧ vs = [v_self, v_found] ∧ Rep K B v_self (enc (K_Rule.Mixed s_back s_cell s_other_back s_other_cell)) ∧ Bor K B H [] v_found (a_found.map enc) ∧ Post (m_Mixed__value s_back s_cell s_other_back s_other_cell a_found) (fun r => Ret K [] B H (enc r) Q) (fun _ => False)
abbrev s_Mixed__value : Stmt := inClass (top 9) 3
theorem sc_Mixed__value : FnScope ["self", "found"] ["self", "found"] (defScope s_Mixed__value) := ⟨rfl, rfl, rfl, by decide +kernel, rfl, by decide +kernel, by decide +kernel⟩
def m_Rule__value (x : K_Rule) (a0 : (List Int)) : Res Int := match x with
  | .Plain x_worth => m_Plain__value x_worth a0
  | .Moved x_back x_cell x_add => m_Moved__value x_back x_cell x_add a0
  | .Mixed x_back x_cell x_other_back x_other_cell => m_Mixed__value x_back x_cell x_other_back x_other_cell a0
def A_Rule__value (K : PySem.W.Frag) (mg : Str → Option Value) (C_Plain C_Moved C_Mixed : Addr) (C : Addr) (sp : Sp) : Prop := (C = C_Plain ∧ sp = sp_Plain__value K) ∨ (C = C_Moved ∧ sp = sp_Moved__value K) ∨ (C = C_Mixed ∧ sp = sp_Mixed__value K)
theorem disp_Rule__value {K : PySem.W.Frag} {mg : Str → Option Value} {B H : Hp} {v : V} {x : K_Rule} {C_Plain C_Moved C_Mixed : Addr} (T_Plain : KI K mg "Plain" C_Plain) (T_Moved : KI K mg "Moved" C_Moved) (T_Mixed : KI K mg "Mixed" C_Mixed) (w : Ex B H) (r : Rep K B v (enc x)) : ∃ a C dx fs sp, v = .ref a ∧ H a = some (.ins C dx fs) ∧ A_Rule__value K mg C_Plain C_Moved C_Mixed C sp ∧ fs.lookup ("value" : Str) = none ∧ ∀ {B2 H2 : Hp} {Q : VK} {E : XK}, Ex B2 H2 → Rep K B2 v (enc x) → ∀ (v0 : V) (a0 : (List Int)), Bor K B2 H2 [] v0 (a0.map enc) → Post (m_Rule__value x a0) (fun r => Ret K [] B2 H2 (enc r) Q) (fun _ => False) → sp (v :: [v0]) H2 Q E := by
  cases x with
  | Plain x_worth =>
    obtain ⟨p, dx, fs, rfl, hp, rf⟩ := r.ins w T_Plain.toKC
    exact ⟨p, C_Plain, dx, fs, sp_Plain__value K, rfl, hp, .inl ⟨rfl, rfl⟩, rf.none (lkN (by decide +kernel) lkE), fun {B2 H2 Q E} w2 r2 v0 a0 q0 P => ⟨B2, _, x_worth, v0, a0, w2, rfl, r2, q0, P⟩⟩
  | Moved x_back x_cell x_add =>
    obtain ⟨p, dx, fs, rfl, hp, rf⟩ := r.ins w T_Moved.toKC
    exact ⟨p, C_Moved, dx, fs, sp_Moved__value K, rfl, hp, .inr (.inl ⟨rfl, rfl⟩), rf.none (lkN (by decide +kernel) (lkN (by decide +kernel) (lkN (by decide +kernel) lkE))), fun {B2 H2 Q E} w2 r2 v0 a0 q0 P => ⟨B2, _, x_back, x_cell, x_add, v0, a0, w2, rfl, r2, q0, P⟩⟩
  | Mixed x_back x_cell x_other_back x_other_cell =>
    obtain ⟨p, dx, fs, rfl, hp, rf⟩ := r.ins w T_Mixed.toKC
    exact ⟨p, C_Mixed, dx, fs, sp_Mixed__value K, rfl, hp, .inr (.inr (⟨rfl, rfl⟩)), rf.none (lkN (by decide +kernel) (lkN (by decide +kernel) (lkN (by decide +kernel) (lkN (by decide +kernel) lkE)))), fun {B2 H2 Q E} w2 r2 v0 a0 q0 P => ⟨B2, _, x_back, x_cell, x_other_back, x_other_cell, v0, a0, w2, rfl, r2, q0, P⟩⟩
/-! ### Plain____str__ -/
def m_Plain____str__ (s_worth : Int) : Res Str :=
  guardR (s_worth.natAbs.log2 < 1920) <| .ok (toString s_worth : Str)
def sp_Plain____str__ (K : PySem.W.Frag) : Sp := fun vs H Q _ => ∃ (B : Hp) (v_self : V) (s_worth : Int), Ex B H ∧ vs = [v_self] ∧ Rep K B v_self (enc (K_Rule.Plain s_worth)) ∧ Post (m_Plain____str__ s_worth) (fun r => Ret K [] B H (enc r) Q) (fun _ => False)
abbrev s_Plain____str__ : Stmt := inClass (top 7) 3
theorem sc_Plain____str__ : FnScope ["self"] ["self"] (defScope s_Plain____str__) := ⟨rfl, rfl, rfl, by decide +kernel, rfl, by decide +kernel, by decide +kernel⟩
/-! ### Moved____str__ -/
def m_Moved____str__ (s_back : Int) (s_cell : Int) (s_add : Int) : Res Str :=
  guardR (s_back.natAbs.log2 < 1920) <| guardR (Str.length ((Str.empty : Str) ++ (toString s_back : Str) : Str) ≤ 1000000) <| guardR (Str.length (((Str.empty : Str) ++ (toString s_back : Str) : Str) ++ (":" : Str) : Str) ≤ 1000000) <| guardR (s_cell.natAbs.log2 < 1920) <| guardR (Str.length ((((Str.empty : Str) ++ (toString s_back : Str) : Str) ++ (":" : Str) : Str) ++ (toString s_cell : Str) : Str) ≤ 1000000) <| guardR (Str.length (((((Str.empty : Str) ++ (toString s_back : Str) : Str) ++ (":" : Str) : Str) ++ (toString s_cell : Str) : Str) ++ ("+" : Str) : Str) ≤ 1000000) <| guardR (s_add.natAbs.log2 < 1920) <| guardR (Str.length ((((((Str.empty : Str) ++ (toString s_back : Str) : Str) ++ (":" : Str) : Str) ++ (toString s_cell : Str) : Str) ++ ("+" : Str) : Str) ++ (toString s_add : Str) : Str) ≤ 1000000) <| .ok ((((((Str.empty : Str) ++ (toString s_back : Str) : Str) ++ (":" : Str) : Str) ++ (toString s_cell : Str) : Str) ++ ("+" : Str) : Str) ++ (toString s_add : Str) : Str)
def sp_Moved____str__ (K : PySem.W.Frag) : Sp := fun vs H Q _ => ∃ (B : Hp) (v_self : V) (s_back : Int) (s_cell : Int) (s_add : Int), Ex B H ∧ vs = [v_self] ∧ Rep K B v_self (enc (K_Rule.Moved s_back s_cell s_add)) ∧ Post (m_Moved____str__ s_back s_cell s_add) (fun r => Ret K [] B H (enc r) Q) (fun _ => False)
abbrev s_Moved____str__ : Stmt := inClass (top 8) 4
theorem sc_Moved____str__ : FnScope ["self"] ["self"] (defScope s_Moved____str__) := ⟨rfl, rfl, rfl, by decide +kernel, rfl, by decide +kernel, by decide +kernel⟩
/-! ### Mixed____str__ -/
def m_Mixed____str__ (s_back : Int) (s_cell : Int) (s_other_back : Int) (s_other_cell : Int) : Res Str :=
  guardR (s_back.natAbs.log2 < 1920) <| guardR (Str.length ((Str.empty : Str) ++ (toString s_back : Str) : Str) ≤ 1000000) <| guardR (Str.length (((Str.empty : Str) ++ (toString s_back : Str) : Str) ++ (":" : Str) : Str) ≤ 1000000) <| guardR (s_cell.natAbs.log2 < 1920) <| guardR (Str.length ((((Str.empty : Str) ++ (toString s_back : Str) : Str) ++ (":" : Str) : Str) ++ (toString s_cell : Str) : Str) ≤ 1000000) <| guardR (Str.length (((((Str.empty : Str) ++ (toString s_back : Str) : Str) ++ (":" : Str) : Str) ++ (toString s_cell : Str) : Str) ++ ("/" : Str) : Str) ≤ 1000000) <| guardR (s_other_back.natAbs.log2 < 1920) <| guardR (Str.length ((((((Str.empty : Str) ++ (toString s_back : Str) : Str) ++ (":" : Str) : Str) ++ (toString s_cell : Str) : Str) ++ ("/" : Str) : Str) ++ (toString s_other_back : Str) : Str) ≤ 1000000) <| guardR (Str.length (((((((Str.empty : Str) ++ (toString s_back : Str) : Str) ++ (":" : Str) : Str) ++ (toString s_cell : Str) : Str) ++ ("/" : Str) : Str) ++ (toString s_other_back : Str) : Str) ++ (":" : Str) : Str) ≤ 1000000) <| guardR (s_other_cell.natAbs.log2 < 1920) <| guardR (Str.length ((((((((Str.empty : Str) ++ (toString s_back : Str) : Str) ++ (":" : Str) : Str) ++ (toString s_cell : Str) : Str) ++ ("/" : Str) : Str) ++ (toString s_other_back : Str) : Str) ++ (":" : Str) : Str) ++ (toString s_other_cell : Str) : Str) ≤ 1000000) <| .ok ((((((((Str.empty : Str) ++ (toString s_back : Str) : Str) ++ (":" : Str) : Str) ++ (toString s_cell : Str) : Str) ++ ("/" : Str) : Str) ++ (toString s_other_back : Str) : Str) ++ (":" : Str) : Str) ++ (toString s_other_cell : Str) : Str)
def sp_Mixed____str__ (K : PySem.W.Frag) : Sp := fun vs H Q _ => ∃ (B : Hp) (v_self : V) (s_back : Int) (s_cell : Int) (s_other_back : Int) (s_other_cell : Int), Ex B H ∧ vs = [v_self] ∧ Rep K B v_self (enc (K_Rule.Mixed s_back s_cell s_other_back s_other_cell)) ∧ Post (m_Mixed____str__ s_back s_cell s_other_back s_other_cell) (fun r => Ret K [] B H (enc r) Q) (fun _ => False)
abbrev s_Mixed____str__ : Stmt := inClass (top 9) 4
theorem sc_Mixed____str__ : FnScope ["self"] ["self"] (defScope s_Mixed____str__) := ⟨rfl, rfl, rfl, by decide +kernel, rfl, by decide +kernel, by decide +kernel⟩
def m_Rule____str__ (x : K_Rule) : Res Str := match x with
  | .Plain x_worth => m_Plain____str__ x_worth 
  | .Moved x_back x_cell x_add => m_Moved____str__ x_back x_cell x_add 
  | .Mixed x_back x_cell x_other_back x_other_cell => m_Mixed____str__ x_back x_cell x_other_back x_other_cell 
def A_Rule____str__ (K : PySem.W.Frag) (mg : Str → Option Value) (C_Plain C_Moved C_Mixed : Addr) (C : Addr) (sp : Sp) : Prop := (C = C_Plain ∧ sp = sp_Plain____str__ K) ∨ (C = C_Moved ∧ sp = sp_Moved____str__ K) ∨ (C = C_Mixed ∧ sp = sp_Mixed____str__ K)
theorem disp_Rule____str__ {K : PySem.W.Frag} {mg : Str → Option Value} {B H : Hp} {v : V} {x : K_Rule} {C_Plain C_Moved C_Mixed : Addr} (T_Plain : KI K mg "Plain" C_Plain) (T_Moved : KI K mg "Moved" C_Moved) (T_Mixed : KI K mg "Mixed" C_Mixed) (w : Ex B H) (r : Rep K B v (enc x)) : ∃ a C dx fs sp, v = .ref a ∧ H a = some (.ins C dx fs) ∧ A_Rule____str__ K mg C_Plain C_Moved C_Mixed C sp ∧ fs.lookup ("__str__" : Str) = none ∧ ∀ {B2 H2 : Hp} {Q : VK} {E : XK}, Ex B2 H2 → Rep K B2 v (enc x) → Post (m_Rule____str__ x ) (fun r => Ret K [] B2 H2 (enc r) Q) (fun _ => False) → sp (v :: []) H2 Q E := by
  cases x with
  | Plain x_worth =>
    obtain ⟨p, dx, fs, rfl, hp, rf⟩ := r.ins w T_Plain.toKC
    exact ⟨p, C_Plain, dx, fs, sp_Plain____str__ K, rfl, hp, .inl ⟨rfl, rfl⟩, rf.none (lkN (by decide +kernel) lkE), fun {B2 H2 Q E} w2 r2   P => ⟨B2, _, x_worth, w2, rfl, r2, P⟩⟩
  | Moved x_back x_cell x_add =>
    obtain ⟨p, dx, fs, rfl, hp, rf⟩ := r.ins w T_Moved.toKC
    exact ⟨p, C_Moved, dx, fs, sp_Moved____str__ K, rfl, hp, .inr (.inl ⟨rfl, rfl⟩), rf.none (lkN (by decide +kernel) (lkN (by decide +kernel) (lkN (by decide +kernel) lkE))), fun {B2 H2 Q E} w2 r2   P => ⟨B2, _, x_back, x_cell, x_add, w2, rfl, r2, P⟩⟩
  | Mixed x_back x_cell x_other_back x_other_cell =>
    obtain ⟨p, dx, fs, rfl, hp, rf⟩ := r.ins w T_Mixed.toKC
    exact ⟨p, C_Mixed, dx, fs, sp_Mixed____str__ K, rfl, hp, .inr (.inr (⟨rfl, rfl⟩)), rf.none (lkN (by decide +kernel) (lkN (by decide +kernel) (lkN (by decide +kernel) (lkN (by decide +kernel) lkE)))), fun {B2 H2 Q E} w2 r2   P => ⟨B2, _, x_back, x_cell, x_other_back, x_other_cell, w2, rfl, r2, P⟩⟩
/-! ### Plain__told -/
def m_Plain__told (s_worth : Int) : Res D :=
  .ok (enc (⟨("plain" : Str), s_worth⟩ : (Tp2 Str Int)))
def sp_Plain__told (K : PySem.W.Frag) : Sp := fun vs H Q _ => ∃ (B : Hp) (v_self : V) (s_worth : Int), Ex B H ∧ vs = [v_self] ∧ Rep K B v_self (enc (K_Rule.Plain s_worth)) ∧ Post (m_Plain__told s_worth) (fun r => Ret K [] B H (enc r) Q) (fun _ => False)
abbrev s_Plain__told : Stmt := inClass (top 7) 1
theorem sc_Plain__told : FnScope ["self"] ["self"] (defScope s_Plain__told) := ⟨rfl, rfl, rfl, by decide +kernel, rfl, by decide +kernel, by decide +kernel⟩
/-! ### Moved__told -/
def m_Moved__told (s_back : Int) (s_cell : Int) (s_add : Int) : Res D :=
  .ok (enc (⟨("moved" : Str), s_back, s_cell, s_add⟩ : (Tp4 Str Int Int Int)))
def sp_Moved__told (K : PySem.W.Frag) : Sp := fun vs H Q _ => ∃ (B : Hp) (v_self : V) (s_back : Int) (s_cell : Int) (s_add : Int), Ex B H ∧ vs = [v_self] ∧ Rep K B v_self (enc (K_Rule.Moved s_back s_cell s_add)) ∧ Post (m_Moved__told s_back s_cell s_add) (fun r => Ret K [] B H (enc r) Q) (fun _ => False)
abbrev s_Moved__told : Stmt := inClass (top 8) 1
theorem sc_Moved__told : FnScope ["self"] ["self"] (defScope s_Moved__told) := ⟨rfl, rfl, rfl, by decide +kernel, rfl, by decide +kernel, by decide +kernel⟩
/-! ### Mixed__told -/
def m_Mixed__told (s_back : Int) (s_cell : Int) (s_other_back : Int) (s_other_cell : Int) : Res D :=
  .ok (enc (⟨("mixed" : Str), s_back, s_cell, s_other_back, s_other_cell⟩ : (Tp5 Str Int Int Int Int)))
def sp_Mixed__told (K : PySem.W.Frag) : Sp := fun vs H Q _ => ∃ (B : Hp) (v_self : V) (s_back : Int) (s_cell : Int) (s_other_back : Int) (s_other_cell : Int), Ex B H ∧ vs = [v_self] ∧ Rep K B v_self (enc (K_Rule.Mixed s_back s_cell s_other_back s_other_cell)) ∧ Post (m_Mixed__told s_back s_cell s_other_back s_other_cell) (fun r => Ret K [] B H (enc r) Q) (fun _ => False)
abbrev s_Mixed__told : Stmt := inClass (top 9) 1
theorem sc_Mixed__told : FnScope ["self"] ["self"] (defScope s_Mixed__told) := ⟨rfl, rfl, rfl, by decide +kernel, rfl, by decide +kernel, by decide +kernel⟩
def m_Rule__told (x : K_Rule) : Res D := match x with
  | .Plain x_worth => m_Plain__told x_worth 
  | .Moved x_back x_cell x_add => m_Moved__told x_back x_cell x_add 
  | .Mixed x_back x_cell x_other_back x_other_cell => m_Mixed__told x_back x_cell x_other_back x_other_cell 
def A_Rule__told (K : PySem.W.Frag) (mg : Str → Option Value) (C_Plain C_Moved C_Mixed : Addr) (C : Addr) (sp : Sp) : Prop := (C = C_Plain ∧ sp = sp_Plain__told K) ∨ (C = C_Moved ∧ sp = sp_Moved__told K) ∨ (C = C_Mixed ∧ sp = sp_Mixed__told K)
theorem disp_Rule__told {K : PySem.W.Frag} {mg : Str → Option Value} {B H : Hp} {v : V} {x : K_Rule} {C_Plain C_Moved C_Mixed : Addr} (T_Plain : KI K mg "Plain" C_Plain) (T_Moved : KI K mg "Moved" C_Moved) (T_Mixed : KI K mg "Mixed" C_Mixed) (w : Ex B H) (r : Rep K B v (enc x)) : ∃ a C dx fs sp, v = .ref a ∧ H a = some (.ins C dx fs) ∧ A_Rule__told K mg C_Plain C_Moved C_Mixed C sp ∧ fs.lookup ("told" : Str) = none ∧ ∀ {B2 H2 : Hp} {Q : VK} {E : XK}, Ex B2 H2 → Rep K B2 v (enc x) → Post (m_Rule__told x ) (fun r => Ret K [] B2 H2 (enc r) Q) (fun _ => False) → sp (v :: []) H2 Q E := by
  cases x with
  | Plain x_worth =>
    obtain ⟨p, dx, fs, rfl, hp, rf⟩ := r.ins w T_Plain.toKC
    exact ⟨p, C_Plain, dx, fs, sp_Plain__told K, rfl, hp, .inl ⟨rfl, rfl⟩, rf.none (lkN (by decide +kernel) lkE), fun {B2 H2 Q E} w2 r2   P => ⟨B2, _, x_worth, w2, rfl, r2, P⟩⟩
  | Moved x_back x_cell x_add =>
    obtain ⟨p, dx, fs, rfl, hp, rf⟩ := r.ins w T_Moved.toKC
    exact ⟨p, C_Moved, dx, fs, sp_Moved__told K, rfl, hp, .inr (.inl ⟨rfl, rfl⟩), rf.none (lkN (by decide +kernel) (lkN (by decide +kernel) (lkN (by decide +kernel) lkE))), fun {B2 H2 Q E} w2 r2   P => ⟨B2, _, x_back, x_cell, x_add, w2, rfl, r2, P⟩⟩
  | Mixed x_back x_cell x_other_back x_other_cell =>
    obtain ⟨p, dx, fs, rfl, hp, rf⟩ := r.ins w T_Mixed.toKC
    exact ⟨p, C_Mixed, dx, fs, sp_Mixed__told K, rfl, hp, .inr (.inr (⟨rfl, rfl⟩)), rf.none (lkN (by decide +kernel) (lkN (by decide +kernel) (lkN (by decide +kernel) (lkN (by decide +kernel) lkE)))), fun {B2 H2 Q E} w2 r2   P => ⟨B2, _, x_back, x_cell, x_other_back, x_other_cell, w2, rfl, r2, P⟩⟩
/-! ### _law_right -/
def l_right (a_rule_here : K_Rule) (a_row : D) (a_worths : (List Int)) : Res Bool :=
  (l_needs a_row).bind fun x1 => (l_of_its_class a_rule_here a_row).bind fun x7 => (if x7 = true then (m_Rule__told a_rule_here).bind fun x14 => (l_numbers x14 a_row).bind fun x20 => (if x20 = true then (m_Rule__needs a_rule_here).bind fun x27 => (l_pairs x27 x1).bind fun x37 => (if x37 = true then guardR (x27.length < 1000000) <| (m_Rule__value a_rule_here (cutL a_worths none (some (x1.length : Int)))).bind fun x66 => (l_whole (enc (x66 : Int))).bind fun x72 => (if x72 = true then (l_worth a_row a_worths).bind fun x78 => (if (!decide (x66 = x78)) = true then .ok false else guardR (okEq (enc (cutL a_worths none (some (x1.length : Int)))) (enc (cutL a_worths none (some (x1.length : Int))))) <| (if (!(eqD (enc (cutL a_worths none (some (x1.length : Int)))) (enc (cutL a_worths none (some (x1.length : Int)))))) = true then .ok false else (m_Rule__needs a_rule_here).bind fun x104 => (l_pairs x104 x1).bind fun x121 => (if x121 = true then (m_Rule____str__ a_rule_here).bind fun x128 => (l_word a_row).bind fun x134 => .ok (decide (x128 = x134)) else .ok false))) else .ok false) else .ok false) else .ok false) else .ok false)
def sp__law_right (K : PySem.W.Frag) : Sp := fun vs H Q _ => ∃ (B : Hp) (v_rule_here : V) (a_rule_here : K_Rule) (v_row : V) (a_row : D) (v_worths : V) (a_worths : (List Int)), Ex B H ∧ vs = [v_rule_here, v_row, v_worths] ∧ Rep K B v_rule_here (enc a_rule_here) ∧ Rep K B v_row (enc a_row) ∧ Rep K B v_worths (enc a_worths) ∧ Post (l_right a_rule_here a_row a_worths) (fun r => Ret K [] B H (enc r) Q) (fun _ => False)
abbrev s__law_right : Stmt := top 26
theorem sc__law_right : FnScope ["_law_rule_here", "_law_row", "_law_worths", "_law_pairs_here", "_law_listed", "_law_handed", "_law_worth_here"] ["_law_rule_here", "_law_row", "_law_worths"] (defScope s__law_right) := ⟨rfl, rfl, rfl, by decide +kernel, rfl, by decide +kernel, by decide +kernel⟩
/-! ### law -/
def m_law (a_script : (List Int)) : Res Bool :=
  (l_well a_script 0).bind fun x1 => (l_rule x1).bind fun x12 => (l_well a_script 1).bind fun x18 => (l_rule x18).bind fun x29 => (l_well a_script 2).bind fun x35 => (l_edge x35 0 255).bind fun x46 => (l_edge x46.2 0 255).bind fun x52 => (l_edge x52.2 0 255).bind fun x63 => (l_edge x63.2 0 255).bind fun x69 => ((m_rule_of x12.1).noErr).bind fun x80 => (l_right x80 x12.1 ([x46.1, x52.1] : List Int)).bind fun x86 => (if x86 = true then ((m_rule_of x29.1).noErr).bind fun x92 => (l_right x92 x29.1 ([x63.1, x69.1] : List Int)).bind fun x98 => (if x98 = true then (l_right x80 x12.1 ([x63.1, x69.1] : List Int)).bind fun x104 => (if x104 = true then (l_by_name x12.1).bind fun x110 => (l_right x110 x12.1 ([x46.1, x52.1] : List Int)).bind fun x116 => (if x116 = true then ((m_rule_of x12.1).noErr).bind fun x122 => (l_right x122 x12.1 ([x46.1, x52.1] : List Int)).bind fun x128 => .ok x128 else .ok false) else .ok false) else .ok false) else .ok false)
def sp_law (K : PySem.W.Frag) : Sp := fun vs H Q _ => ∃ (B : Hp) (v_script : V) (a_script : (List Int)), Ex B H ∧ vs = [v_script] ∧ Bor K B H [] v_script (a_script.map enc) ∧ Post (m_law a_script) (fun r => Ret K [] B H (enc r) Q) (fun _ => False)
abbrev s_law : Stmt := top 27
theorem sc_law : FnScope ["_law_script", "_law_row", "_law_other_told", "_law_well_here", "_law_worths", "_law_others", "_law_rule_here", "_law_other"] ["_law_script"] (defScope s_law) := ⟨rfl, rfl, rfl, by decide +kernel, rfl, by decide +kernel, by decide +kernel⟩
section
variable {Pr : Program} {wo : World} {K : PySem.W.Frag} {mg : Str → Option Value} {base : Heap}
theorem ok_is_whole {f : Addr} {fd : FuncData}  (F : Fun K "is_whole" "is_whole" s_is_whole f fd) (bI_isinstance : mg "isinstance" = none) (bI_int : mg "int" = none) (bI_bool : mg "bool" = none) : FnOk Pr wo K mg base CX0 1 f fd ["thing", "low", "high"] (sp_is_whole K) := by
  refine F.ok sc_is_whole (fun vs H Q E h => ?_) (fun cdv A outer s H vs Q E hr h => ?_)
  · obtain ⟨_, _, _, _, _, _, rfl, _⟩ := h; rfl
  · obtain ⟨B, v, d, lo, hi, w, rfl, r, k⟩ := h
    have st := Stp.refl (W := []) w
    refine ⟨_, pss_one (ps_ret (pe_and (pe_callB call_isi (by rfl) bI_isinstance PyProof.Rows.boot_isinstance (pa_cons (pv 0) (pa_cons (pe_bltn (v := .ty "int") (by rfl) bI_int Y.boot_int rfl) pa_nil)))
      (pe_and (pe_not (pe_callB call_isi (by rfl) bI_isinstance PyProof.Rows.boot_isinstance (pa_cons (pv 0) (pa_cons (pe_bltn (v := .ty "bool") (by rfl) bI_bool Y.boot_bool rfl) pa_nil))))
       (pe_one (pe_chain op_le op_le (pv 1) (pv 0) (pv 2)))))), ?_⟩
    refine h_ret (h_and (h_cb (h_cons (h_var rfl (h_cons (h_c (h_nil (isi (t := "int") w r (h_bl ?_)))))))))
    cases d <;> try exact h_iteF (k.ok _ _ _ st (Rep.bl _))
    · refine h_iteT (h_and (h_not (h_cb (h_cons (h_var rfl (h_cons (h_c (h_nil (isi (t := "bool") w r (h_bl (h_bl ?_))))))))))) 
      exact h_iteF (k.ok _ _ _ st (Rep.bl _))
    · cases r
      refine h_iteT (h_and (h_not (h_cb (h_cons (h_var rfl (h_cons (h_c (h_nil (isi (t := "bool") w (Rep.int _) (h_bl (h_bl ?_)))))))))))
      refine h_iteT (h_chain (h_var rfl (h_var rfl (h_ch (fun Q q => h_var rfl q) ?_))))
      exact k.ok _ _ _ st (Rep.bl _)
theorem ok_is_need {f : Addr} {fd : FuncData}  (F : Fun K "is_need" "is_need" s_is_need f fd) {f_is_whole : Addr} {d_is_whole : FuncData} (g_is_whole : mg "is_whole" = some (.ref f_is_whole)) (k_is_whole : PySem.W.keepIn K (.ref f_is_whole) = true) (b_is_whole : L2.Binds K d_is_whole ["thing", "low", "high"] []) (G_is_whole : FnOk Pr wo K mg base CX0 1 f_is_whole d_is_whole ["thing", "low", "high"] (sp_is_whole K)) : FnOk Pr wo K mg base CX0 2 f fd ["back", "cell"] (sp_is_need K) := by
  refine F.ok sc_is_need (fun vs H Q E h => ?_) (fun cdv A outer s H0 vs Q E hr h => ?_)
  · obtain ⟨_, _, _, _, _, _, rfl, _⟩ := h; rfl
  · obtain ⟨B0, v_back, a_back, v_cell, a_cell, w, rfl, r_back, r_cell, P⟩ := h
    have w0 := w
    have hu := hu_of hr
    have hu64 := hu64_of hr
    have hu65 := hu65_of hr
    have hr1 : Room 1 _ := hr.mono (by decide)
    refine ⟨_, (pss_one (ps_ret (pe_and (pe_call G_is_whole hr1 rfl g_is_whole k_is_whole b_is_whole .nil pass0 (pa_cons (pv 0) (pa_cons pe_int (pa_cons pe_int pa_nil)))) (pe_one (pe_call G_is_whole hr1 rfl g_is_whole k_is_whole b_is_whole .nil pass0 (pa_cons (pv 1) (pa_cons pe_int (pa_cons pe_int pa_nil)))))))), ?_⟩
    unfold m_is_need at P
    have st := Stp.refl (W := []) w
    refine h_ret ?_
    refine h_and ?_
    refine h_call ?_
    refine h_cons ?_
    refine h_var rfl ?_
    refine h_cons ?_
    refine h_c ?_
    refine h_cons ?_
    refine h_c ?_
    refine h_nil ?_
    refine ⟨B0, v_back, a_back, 1, 200, w, rfl, (r_back.mono st.ex), (P.bind).mono (fun x1 P => ?_) (fun _ z => z)⟩
    refine fun v5 B2 H3 s4 r6 => ?_
    replace st := st.go s4 go0
    replace w := s4.ok
    cases r6
    refine h_bl ?_
    refine h_ite (fun c1 => ?_) (fun c1 => ?_)
    · replace P := P.iteT c1
      refine h_call ?_
      refine h_cons ?_
      refine h_var rfl ?_
      refine h_cons ?_
      refine h_c ?_
      refine h_cons ?_
      refine h_c ?_
      refine h_nil ?_
      refine ⟨B2, v_cell, a_cell, 0, 15, w, rfl, (r_cell.mono st.ex), (P.bind).mono (fun x7 P => ?_) (fun _ z => z)⟩
      refine fun v11 B8 H9 s10 r12 => ?_
      replace st := st.go s10 go0
      replace w := s10.ok
      cases r12
      exact P.ok _ _ _ st (Rep.bl _)
    · replace P := P.iteF c1
      exact P.ok _ _ _ st (Rep.bl _)
theorem ok_Plain____init__ {f : Addr} {fd : FuncData} (F : Fun K "__init__" "Plain.__init__" s_Plain____init__ f fd) : FnOk Pr wo K mg base CX0 1 f fd ["self", "value"] (spInit K ["worth"]) := by
  refine F.ok sc_Plain____init__ (fun vs H Q E h => ?_) (fun cdv A outer s H vs Q E hr h => ?_)
  · obtain ⟨_, _, _, us, rfl, hl, _⟩ := h
    exact congrArg Nat.succ hl
  · obtain ⟨C, p, dx, us, rfl, hl, hp, hc, lo, k⟩ := h
    match us, hl with
    | [u1], _ =>
      refine ⟨_, (pss_one (ps_fld (pv 0) (pv 1) rfl)), ?_⟩
      have e1 : putF "worth" u1 ([] : List (Str × V)) = ([("worth", u1)] : List (Str × V)) := putE
      have eH : (upd H p (HO.ins C dx (putF "worth" u1 ([] : List (Str × V))))) = upd H p (HO.ins C dx ([("worth", u1)] : List (Str × V))) := by rw [e1]
      have k2 : Q .non (upd H p (HO.ins C dx ([("worth", u1)] : List (Str × V)))) := k
      rw [← eH] at k2
      exact ⟨_, rfl, _, rfl, p, C, dx, ([] : List (Str × V)), rfl, hp, hc, lo.1, (by show 0 < 1000; decide), k2⟩
theorem ok_Moved____init__ {f : Addr} {fd : FuncData} (F : Fun K "__init__" "Moved.__init__" s_Moved____init__ f fd) : FnOk Pr wo K mg base CX0 1 f fd ["self", "back", "cell", "add"] (spInit K ["back", "cell", "add"]) := by
  refine F.ok sc_Moved____init__ (fun vs H Q E h => ?_) (fun cdv A outer s H vs Q E hr h => ?_)
  · obtain ⟨_, _, _, us, rfl, hl, _⟩ := h
    exact congrArg Nat.succ hl
  · obtain ⟨C, p, dx, us, rfl, hl, hp, hc, lo, k⟩ := h
    match us, hl with
    | [u1, u2, u3], _ =>
      refine ⟨_, (pss_cons (ps_fld (pv 0) (pv 1) rfl) (pss_cons (ps_fld (pv 0) (pv 2) rfl) (pss_one (ps_fld (pv 0) (pv 3) rfl)))), ?_⟩
      have e1 : putF "back" u1 ([] : List (Str × V)) = ([("back", u1)] : List (Str × V)) := putE
      have h1 : (upd H p (HO.ins C dx (putF "back" u1 ([] : List (Str × V))))) p = some (HO.ins C dx ([("back", u1)] : List (Str × V))) := by rw [e1]; exact upd_same
      have e2 : putF "cell" u2 ([("back", u1)] : List (Str × V)) = ([("back", u1), ("cell", u2)] : List (Str × V)) := (putS (by decide +kernel) putE)
      have h2 : (upd (upd H p (HO.ins C dx (putF "back" u1 ([] : List (Str × V))))) p (HO.ins C dx (putF "cell" u2 ([("back", u1)] : List (Str × V))))) p = some (HO.ins C dx ([("back", u1), ("cell", u2)] : List (Str × V))) := by rw [e2]; exact upd_same
      have e3 : putF "add" u3 ([("back", u1), ("cell", u2)] : List (Str × V)) = ([("back", u1), ("cell", u2), ("add", u3)] : List (Str × V)) := (putS (by decide +kernel) (putS (by decide +kernel) putE))
      have eH : (upd (upd (upd H p (HO.ins C dx (putF "back" u1 ([] : List (Str × V))))) p (HO.ins C dx (putF "cell" u2 ([("back", u1)] : List (Str × V))))) p (HO.ins C dx (putF "add" u3 ([("back", u1), ("cell", u2)] : List (Str × V))))) = upd H p (HO.ins C dx ([("back", u1), ("cell", u2), ("add", u3)] : List (Str × V))) := by rw [e1, e2, e3, L2.upd_upd, L2.upd_upd]
      have k2 : Q .non (upd H p (HO.ins C dx ([("back", u1), ("cell", u2), ("add", u3)] : List (Str × V)))) := k
      rw [← eH] at k2
      exact ⟨_, rfl, _, rfl, p, C, dx, ([] : List (Str × V)), rfl, hp, hc, lo.1, (by show 0 < 1000; decide), _, rfl, _, rfl, p, C, dx, ([("back", u1)] : List (Str × V)), rfl, h1, hc, lo.2.1, (by show 1 < 1000; decide), _, rfl, _, rfl, p, C, dx, ([("back", u1), ("cell", u2)] : List (Str × V)), rfl, h2, hc, lo.2.2.1, (by show 2 < 1000; decide), k2⟩
theorem ok_Mixed____init__ {f : Addr} {fd : FuncData} (F : Fun K "__init__" "Mixed.__init__" s_Mixed____init__ f fd) : FnOk Pr wo K mg base CX0 1 f fd ["self", "back", "cell", "other_back", "other_cell"] (spInit K ["back", "cell", "other_back", "other_cell"]) := by
  refine F.ok sc_Mixed____init__ (fun vs H Q E h => ?_) (fun cdv A outer s H vs Q E hr h => ?_)
  · obtain ⟨_, _, _, us, rfl, hl, _⟩ := h
    exact congrArg Nat.succ hl
  · obtain ⟨C, p, dx, us, rfl, hl, hp, hc, lo, k⟩ := h
    match us, hl with
    | [u1, u2, u3, u4], _ =>
      refine ⟨_, (pss_cons (ps_fld (pv 0) (pv 1) rfl) (pss_cons (ps_fld (pv 0) (pv 2) rfl) (pss_cons (ps_fld (pv 0) (pv 3) rfl) (pss_one (ps_fld (pv 0) (pv 4) rfl))))), ?_⟩
      have e1 : putF "back" u1 ([] : List (Str × V)) = ([("back", u1)] : List (Str × V)) := putE
      have h1 : (upd H p (HO.ins C dx (putF "back" u1 ([] : List (Str × V))))) p = some (HO.ins C dx ([("back", u1)] : List (Str × V))) := by rw [e1]; exact upd_same
      have e2 : putF "cell" u2 ([("back", u1)] : List (Str × V)) = ([("back", u1), ("cell", u2)] : List (Str × V)) := (putS (by decide +kernel) putE)
      have h2 : (upd (upd H p (HO.ins C dx (putF "back" u1 ([] : List (Str × V))))) p (HO.ins C dx (putF "cell" u2 ([("back", u1)] : List (Str × V))))) p = some (HO.ins C dx ([("back", u1), ("cell", u2)] : List (Str × V))) := by rw [e2]; exact upd_same
      have e3 : putF "other_back" u3 ([("back", u1), ("cell", u2)] : List (Str × V)) = ([("back", u1), ("cell", u2), ("other_back", u3)] : List (Str × V)) := (putS (by decide +kernel) (putS (by decide +kernel) putE))
      have h3 : (upd (upd (upd H p (HO.ins C dx (putF "back" u1 ([] : List (Str × V))))) p (HO.ins C dx (putF "cell" u2 ([("back", u1)] : List (Str × V))))) p (HO.ins C dx (putF "other_back" u3 ([("back", u1), ("cell", u2)] : List (Str × V))))) p = some (HO.ins C dx ([("back", u1), ("cell", u2), ("other_back", u3)] : List (Str × V))) := by rw [e3]; exact upd_same
      have e4 : putF "other_cell" u4 ([("back", u1), ("cell", u2), ("other_back", u3)] : List (Str × V)) = ([("back", u1), ("cell", u2), ("other_back", u3), ("other_cell", u4)] : List (Str × V)) := (putS (by decide +kernel) (putS (by decide +kernel) (putS (by decide +kernel) putE)))
      have eH : (upd (upd (upd (upd H p (HO.ins C dx (putF "back" u1 ([] : List (Str × V))))) p (HO.ins C dx (putF "cell" u2 ([("back", u1)] : List (Str × V))))) p (HO.ins C dx (putF "other_back" u3 ([("back", u1), ("cell", u2)] : List (Str × V))))) p (HO.ins C dx (putF "other_cell" u4 ([("back", u1), ("cell", u2), ("other_back", u3)] : List (Str × V))))) = upd H p (HO.ins C dx ([("back", u1), ("cell", u2), ("other_back", u3), ("other_cell", u4)] : List (Str × V))) := by rw [e1, e2, e3, e4, L2.upd_upd, L2.upd_upd, L2.upd_upd]
      have k2 : Q .non (upd H p (HO.ins C dx ([("back", u1), ("cell", u2), ("other_back", u3), ("other_cell", u4)] : List (Str × V)))) := k
      rw [← eH] at k2
      exact ⟨_, rfl, _, rfl, p, C, dx, ([] : List (Str × V)), rfl, hp, hc, lo.1, (by show 0 < 1000; decide), _, rfl, _, rfl, p, C, dx, ([("back", u1)] : List (Str × V)), rfl, h1, hc, lo.2.1, (by show 1 < 1000; decide), _, rfl, _, rfl, p, C, dx, ([("back", u1), ("cell", u2)] : List (Str × V)), rfl, h2, hc, lo.2.2.1, (by show 2 < 1000; decide), _, rfl, _, rfl, p, C, dx, ([("back", u1), ("cell", u2), ("other_back", u3)] : List (Str × V)), rfl, h3, hc, lo.2.2.2.1, (by show 3 < 1000; decide), k2⟩
theorem ok_rule_of {f : Addr} {fd : FuncData}  (F : Fun K "rule_of" "rule_of" s_rule_of f fd) {C_NoRule : Addr} (T_NoRule : ExcR K mg "NoRule" C_NoRule) {C_Plain : Addr} (T_Plain : KI K mg "Plain" C_Plain) {C_Moved : Addr} (T_Moved : KI K mg "Moved" C_Moved) {C_Mixed : Addr} (T_Mixed : KI K mg "Mixed" C_Mixed) {fi_Plain : Addr} {di_Plain : FuncData} (M_Plain : Mk K C_Plain fi_Plain) (lo_Plain : LaysOk K C_Plain ["worth"]) (bi_Plain : L2.Binds K di_Plain ["self", "value"] []) (Gi_Plain : FnOk Pr wo K mg base CX0 1 fi_Plain di_Plain ["self", "value"] (spInit K ["worth"])) {fi_Moved : Addr} {di_Moved : FuncData} (M_Moved : Mk K C_Moved fi_Moved) (lo_Moved : LaysOk K C_Moved ["back", "cell", "add"]) (bi_Moved : L2.Binds K di_Moved ["self", "back", "cell", "add"] []) (Gi_Moved : FnOk Pr wo K mg base CX0 1 fi_Moved di_Moved ["self", "back", "cell", "add"] (spInit K ["back", "cell", "add"])) {fi_Mixed : Addr} {di_Mixed : FuncData} (M_Mixed : Mk K C_Mixed fi_Mixed) (lo_Mixed : LaysOk K C_Mixed ["back", "cell", "other_back", "other_cell"]) (bi_Mixed : L2.Binds K di_Mixed ["self", "back", "cell", "other_back", "other_cell"] []) (Gi_Mixed : FnOk Pr wo K mg base CX0 1 fi_Mixed di_Mixed ["self", "back", "cell", "other_back", "other_cell"] (spInit K ["back", "cell", "other_back", "other_cell"])) {f_is_whole : Addr} {d_is_whole : FuncData} (g_is_whole : mg "is_whole" = some (.ref f_is_whole)) (k_is_whole : PySem.W.keepIn K (.ref f_is_whole) = true) (b_is_whole : L2.Binds K d_is_whole ["thing", "low", "high"] []) (G_is_whole : FnOk Pr wo K mg base CX0 1 f_is_whole d_is_whole ["thing", "low", "high"] (sp_is_whole K)) {f_is_need : Addr} {d_is_need : FuncData} (g_is_need : mg "is_need" = some (.ref f_is_need)) (k_is_need : PySem.W.keepIn K (.ref f_is_need) = true) (b_is_need : L2.Binds K d_is_need ["back", "cell"] []) (G_is_need : FnOk Pr wo K mg base CX0 2 f_is_need d_is_need ["back", "cell"] (sp_is_need K)) (kb_is_need_0_back_cell : KBinds K d_is_need ["back", "cell"] ["back", "cell"] (fun us ws => match us, ws with | [], [w0, w1] => [w0, w1] | _, _ => []) (fun us ws => match us, ws with | [], [w0, w1] => [w0, w1] | _, _ => [])) (bI_isinstance : mg "isinstance" = none) (bI_tuple : mg "tuple" = none) (bI_len : mg "len" = none) (kb_Moved____init___2_add : KBinds K di_Moved ["self", "back", "cell", "add"] ["add"] (fun us ws => match us, ws with | [u0, u1, u2], [w0] => [u0, u1, u2, w0] | _, _ => []) (fun us ws => match us, ws with | [u0, u1, u2], [w0] => [u0, u1, u2, w0] | _, _ => [])) (kb_Mixed____init___2_other_back_other_cell : KBinds K di_Mixed ["self", "back", "cell", "other_back", "other_cell"] ["other_back", "other_cell"] (fun us ws => match us, ws with | [u0, u1, u2], [w0, w1] => [u0, u1, u2, w0, w1] | _, _ => []) (fun us ws => match us, ws with | [u0, u1, u2], [w0, w1] => [u0, u1, u2, w0, w1] | _, _ => [])) : FnOk Pr wo K mg base (L2.CX Pr wo) 3 f fd ["told"] (sp_rule_of K mg) := by
  refine F.okX sc_rule_of (fun vs H Q E h => ?_) (fun cdv A outer s H0 vs Q E hr h => ?_)
  · obtain ⟨_, _, _, _, rfl, _⟩ := h; rfl
  · obtain ⟨B0, v_told, a_told, w, rfl, r_told, P⟩ := h
    have w0 := w
    have hu := hu_of hr
    have hu64 := hu64_of hr
    have hu65 := hu65_of hr
    have hr1 : Room 1 _ := hr.mono (by decide)
    have hr2 : Room 2 _ := hr.mono (by decide)
    refine ⟨_, (pss_cons (ps_if (PW.pt (pw_or (pt_not (pt_val (pe_callB (r := rIsi K) call_isi (by rfl) bI_isinstance PyProof.Rows.boot_isinstance (pa_cons (pv 0) (pa_cons (pe_bltn (v := .ty "tuple") (by rfl) bI_tuple Y.boot_tuple rfl) pa_nil))))) (pw_or1 (pt_cmpR op_eq (pe_callB (r := rLenY K) cr_len (by rfl) bI_len PySem.boot_len (pa_cons (pv 0) pa_nil)) pe_int (nomark _))))) (pss_one (ps_raise rfl (takes_of rfl rfl rfl rfl) (pmk_own PySem.F.excBase_ValueError T_NoRule.ex T_NoRule.g T_NoRule.kp (raises_own T_NoRule.ec.hs T_NoRule.ty) rfl))) pss_nil)
      (pss_cons (ps_if (PW.pt (pw_and (pt_cmpR (r := rEqD K) (op_eqD hu64) (pe_ix (r := rIxT K) ix_tup (pv 0) pe_int (fun _ _ => rfl)) pe_str (nomark _)) (pw_and (pt_cmpR op_eq (pe_callB (r := rLenY K) cr_len (by rfl) bI_len PySem.boot_len (pa_cons (pv 0) pa_nil)) pe_int (nomark _)) (pw_and1 (pt_val (pe_call G_is_whole hr1 rfl g_is_whole k_is_whole b_is_whole .nil pass0 (pa_cons (pe_ix (r := rIxT K) ix_tup (pv 0) pe_int (fun _ _ => rfl)) (pa_cons pe_int (pa_cons pe_int pa_nil))))))))) (pss_one (ps_ret (pe_make M_Plain Gi_Plain hr2 rfl T_Plain.g bi_Plain .nil pass0 (pa_cons (pe_ix (r := rIxT K) ix_tup (pv 0) pe_int (fun _ _ => rfl)) pa_nil)))) pss_nil)
      (pss_cons (ps_if (PW.pt (pw_and (pt_cmpR (r := rEqD K) (op_eqD hu64) (pe_ix (r := rIxT K) ix_tup (pv 0) pe_int (fun _ _ => rfl)) pe_str (nomark _)) (pw_and (pt_cmpR op_eq (pe_callB (r := rLenY K) cr_len (by rfl) bI_len PySem.boot_len (pa_cons (pv 0) pa_nil)) pe_int (nomark _)) (pw_and1 (pt_val (pe_call G_is_need hr2 rfl g_is_need k_is_need b_is_need .nil pass0 (pa_cons (pe_ix (r := rIxT K) ix_tup (pv 0) pe_int (fun _ _ => rfl)) (pa_cons (pe_ix (r := rIxT K) ix_tup (pv 0) pe_int (fun _ _ => rfl)) pa_nil)))))))) (pss_one (ps_if (pt_val (pe_call G_is_whole hr1 rfl g_is_whole k_is_whole b_is_whole .nil pass0 (pa_cons (pe_ix (r := rIxT K) ix_tup (pv 0) pe_int (fun _ _ => rfl)) (pa_cons pe_int (pa_cons pe_int pa_nil))))) (pss_one (ps_ret (pe_makeB M_Moved Gi_Moved hr2 rfl T_Moved.g kb_Moved____init___2_add pass0 (pa_cons (pe_ix (r := rIxT K) ix_tup (pv 0) pe_int (fun _ _ => rfl)) (pa_cons (pe_ix (r := rIxT K) ix_tup (pv 0) pe_int (fun _ _ => rfl)) pa_nil)) (pk_cons (pe_ix (r := rIxT K) ix_tup (pv 0) pe_int (fun _ _ => rfl)) pk_nil)))) pss_nil)) pss_nil)
      (pss_cons (ps_if (PW.pt (pw_and (pt_cmpR (r := rEqD K) (op_eqD hu64) (pe_ix (r := rIxT K) ix_tup (pv 0) pe_int (fun _ _ => rfl)) pe_str (nomark _)) (pw_and1 (pt_cmpR op_eq (pe_callB (r := rLenY K) cr_len (by rfl) bI_len PySem.boot_len (pa_cons (pv 0) pa_nil)) pe_int (nomark _))))) (pss_one (ps_if (PW.pt (pw_and (pt_val (pe_call G_is_need hr2 rfl g_is_need k_is_need b_is_need .nil pass0 (pa_cons (pe_ix (r := rIxT K) ix_tup (pv 0) pe_int (fun _ _ => rfl)) (pa_cons (pe_ix (r := rIxT K) ix_tup (pv 0) pe_int (fun _ _ => rfl)) pa_nil)))) (pw_and1 (pt_val (pe_callK0 G_is_need hr2 rfl g_is_need k_is_need kb_is_need_0_back_cell pass0 (pk_cons (pe_ix (r := rIxT K) ix_tup (pv 0) pe_int (fun _ _ => rfl)) (pk_cons (pe_ix (r := rIxT K) ix_tup (pv 0) pe_int (fun _ _ => rfl)) pk_nil))))))) (pss_one (ps_ret (pe_makeB M_Mixed Gi_Mixed hr2 rfl T_Mixed.g kb_Mixed____init___2_other_back_other_cell pass0 (pa_cons (pe_ix (r := rIxT K) ix_tup (pv 0) pe_int (fun _ _ => rfl)) (pa_cons (pe_ix (r := rIxT K) ix_tup (pv 0) pe_int (fun _ _ => rfl)) pa_nil)) (pk_cons (pe_ix (r := rIxT K) ix_tup (pv 0) pe_int (fun _ _ => rfl)) (pk_cons (pe_ix (r := rIxT K) ix_tup (pv 0) pe_int (fun _ _ => rfl)) pk_nil))))) pss_nil)) pss_nil)
      (pss_one (ps_raise rfl (takes_of rfl rfl rfl rfl) (pmk_own PySem.F.excBase_ValueError T_NoRule.ex T_NoRule.g T_NoRule.kp (raises_own T_NoRule.ec.hs T_NoRule.ty) rfl))))))), ?_⟩
    unfold m_rule_of at P
    have st := Stp.refl (W := []) w
    refine h_seq <| h_if ?_
    refine h_tor ?_
    refine h_tnot ?_
    refine h_tB ?_
    refine h_cb ?_
    refine h_cons ?_
    refine h_var rfl ?_
    refine h_cons ?_
    refine h_c ?_
    refine h_nil ?_
    refine isi (t := "tuple") w (r_told.mono st.ex) ?_
    refine h_bl ?_
    refine h_iteN (fun c1 => ?_) (fun c1 => ?_)
    · replace P := P.iteF c1
      refine h_iteT ?_
      exact P.err _ _ _ T_NoRule.g st
    · replace P := P.iteT c1
      refine h_test ?_
      refine h_op ?_
      refine h_cb ?_
      refine h_cons ?_
      refine h_var rfl ?_
      refine h_nil ?_
      obtain ⟨l1, hl2, P⟩ := P.asT
      have rc3 := (r_told.mono st.ex)
      rw [hl2] at rc3
      obtain ⟨p4, xs5, rfl, hs6, hr7⟩ := Rep.st w rc3
      refine h_lenTl hs6 hr7 ?_
      refine h_c ?_
      refine h_eqI ?_
      refine h_bl ?_
      refine h_ite (fun c1 => ?_) (fun c1 => ?_)
      · replace P := P.iteT c1
        exact P.err _ _ _ T_NoRule.g st
      · replace P := P.iteF c1
        refine h_next ?_
        refine h_nx ?_
        refine h_seq <| h_if ?_
        have wj9 := w
        have sj8 := Stp.refl (W := []) w
        refine h_condJ P (fun H' => ∃ B', Stp [] B0 H0 B' H') (fun N kk10 P => ?_) ?_
        · skip
          refine h_tand ?_
          refine h_test ?_
          refine h_op ?_
          refine h_op ?_
          refine h_var rfl ?_
          refine h_c ?_
          obtain ⟨l11, hl12, P⟩ := P.asT
          have rc13 := (r_told.mono st.ex)
          rw [hl12] at rc13
          obtain ⟨p14, xs15, hv, hs16, hr17⟩ := Rep.st w rc13
          cases hv
          obtain ⟨x18, hx19, P⟩ := P.ix
          obtain ⟨u20, hu, r21⟩ := RepL.atE hr17 hx19
          refine h_ixT hs16 hu ?_
          refine h_c ?_
          obtain ⟨gd, P⟩ := P.guard
          refine h_eqD (d := x18) (e := (enc ("plain" : Str))) w r21 (Rep.str _) gd ?_
          refine h_bl ?_
          refine h_ite (fun c1 => ?_) (fun c1 => ?_)
          · replace P := P.iteT c1
            refine h_tand ?_
            refine h_test ?_
            refine h_op ?_
            refine h_cb ?_
            refine h_cons ?_
            refine h_var rfl ?_
            refine h_nil ?_
            obtain ⟨l22, hl23, P⟩ := P.asT
            have rc24 := (r_told.mono st.ex)
            rw [hl23] at rc24
            obtain ⟨p25, xs26, hv, hs27, hr28⟩ := Rep.st w rc24
            cases hv
            refine h_lenTl hs27 hr28 ?_
            refine h_c ?_
            refine h_eqI ?_
            refine h_bl ?_
            refine h_ite (fun c1 => ?_) (fun c1 => ?_)
            · replace P := P.iteT c1
              refine h_tB ?_
              refine h_call ?_
              refine h_cons ?_
              refine h_op ?_
              refine h_var rfl ?_
              refine h_c ?_
              obtain ⟨l29, hl30, P⟩ := P.asT
              have rc31 := (r_told.mono st.ex)
              rw [hl30] at rc31
              obtain ⟨p32, xs33, hv, hs34, hr35⟩ := Rep.st w rc31
              cases hv
              obtain ⟨x36, hx37, P⟩ := P.ix
              obtain ⟨u38, hu, r39⟩ := RepL.atE hr35 hx37
              refine h_ixT hs34 hu ?_
              refine h_cons ?_
              refine h_c ?_
              refine h_cons ?_
              refine h_c ?_
              refine h_nil ?_
              refine ⟨B0, u38, x36, 0, 255, w, rfl, r39, (P.bind.noErr).mono (fun x40 P => ?_) (fun _ z => z.elim)⟩
              refine fun v44 B41 H42 s43 r45 => ?_
              replace r39 := r39.mono s43.ex
              replace st := st.go s43 go0
              replace sj8 := sj8.go s43 go0
              replace w := s43.ok
              cases r45
              refine h_bl ?_
              exact kk10 _ _ ⟨_, sj8⟩ P.ok
            · replace P := P.iteF c1
              exact kk10 _ _ ⟨_, sj8⟩ P.ok
          · replace P := P.iteF c1
            exact kk10 _ _ ⟨_, sj8⟩ P.ok
        rintro b46 H48 ⟨B47, s49⟩ P
        replace st := st.go s49 go0
        replace w := s49.ok
        refine h_ite (fun c1 => ?_) (fun c1 => ?_)
        · replace P := P.iteT c1
          refine h_ret ?_
          refine h_makeE ?_
          refine h_cons ?_
          refine h_op ?_
          refine h_var rfl ?_
          refine h_c ?_
          obtain ⟨l50, hl51, P⟩ := P.asT
          have rc52 := (r_told.mono st.ex)
          rw [hl51] at rc52
          obtain ⟨p53, xs54, hv, hs55, hr56⟩ := Rep.st w rc52
          cases hv
          obtain ⟨x57, hx58, P⟩ := P.ix
          obtain ⟨u59, hu, r60⟩ := RepL.atE hr56 hx58
          refine h_ixT hs55 hu ?_
          refine h_nil ?_
          obtain ⟨i61, hi62, P⟩ := P.asI
          have rc63 := r60
          rw [hi62] at rc63
          cases rc63
          refine h_make (us := [.int i61]) (ns := ["worth"]) rfl w T_Plain.toKC lo_Plain (ds := [("worth", enc (i61 : Int))]) (.cons (Rep.int _) .nil) (fun p64 B65 H66 s67 r68 => ?_)
          replace r60 := r60.mono s67.ex
          replace st := st.go s67 go0
          replace w := s67.ok
          replace r68 : Rep K B65 (.ref p64) (enc (K_Rule.Plain i61)) := r68
          exact P.ok _ _ _ st r68
        · replace P := P.iteF c1
          refine h_next ?_
          refine h_nx ?_
          have wj70 := w
          have sj69 := Stp.refl (W := []) w
          refine h_joinF P (fun (a : Unit) σ' H' => ∃ (B' : Hp), Stp [] B47 H48 B' H' ∧ σ' = [some ((.ref p4))]) (fun N Tkr72 kk71 kr72 P => h_if ?_) ?_
          · skip
            have wj74 := w
            have sj73 := Stp.refl (W := []) w
            refine h_condJ P (fun H' => ∃ B', Stp [] B47 H48 B' H') (fun N kk75 P => ?_) ?_
            · skip
              refine h_tand ?_
              refine h_test ?_
              refine h_op ?_
              refine h_op ?_
              refine h_var rfl ?_
              refine h_c ?_
              obtain ⟨l76, hl77, P⟩ := P.asT
              have rc78 := (r_told.mono st.ex)
              rw [hl77] at rc78
              obtain ⟨p79, xs80, hv, hs81, hr82⟩ := Rep.st w rc78
              cases hv
              obtain ⟨x83, hx84, P⟩ := P.ix
              obtain ⟨u85, hu, r86⟩ := RepL.atE hr82 hx84
              refine h_ixT hs81 hu ?_
              refine h_c ?_
              obtain ⟨gd, P⟩ := P.guard
              refine h_eqD (d := x83) (e := (enc ("moved" : Str))) w r86 (Rep.str _) gd ?_
              refine h_bl ?_
              refine h_ite (fun c1 => ?_) (fun c1 => ?_)
              · replace P := P.iteT c1
                refine h_tand ?_
                refine h_test ?_
                refine h_op ?_
                refine h_cb ?_
                refine h_cons ?_
                refine h_var rfl ?_
                refine h_nil ?_
                obtain ⟨l87, hl88, P⟩ := P.asT
                have rc89 := (r_told.mono st.ex)
                rw [hl88] at rc89
                obtain ⟨p90, xs91, hv, hs92, hr93⟩ := Rep.st w rc89
                cases hv
                refine h_lenTl hs92 hr93 ?_
                refine h_c ?_
                refine h_eqI ?_
                refine h_bl ?_
                refine h_ite (fun c1 => ?_) (fun c1 => ?_)
                · replace P := P.iteT c1
                  refine h_tB ?_
                  refine h_call ?_
                  refine h_cons ?_
                  refine h_op ?_
                  refine h_var rfl ?_
                  refine h_c ?_
                  obtain ⟨l94, hl95, P⟩ := P.asT
                  have rc96 := (r_told.mono st.ex)
                  rw [hl95] at rc96
                  obtain ⟨p97, xs98, hv, hs99, hr100⟩ := Rep.st w rc96
                  cases hv
                  obtain ⟨x101, hx102, P⟩ := P.ix
                  obtain ⟨u103, hu, r104⟩ := RepL.atE hr100 hx102
                  refine h_ixT hs99 hu ?_
                  refine h_cons ?_
                  refine h_op ?_
                  refine h_var rfl ?_
                  refine h_c ?_
                  obtain ⟨l105, hl106, P⟩ := P.asT
                  have rc107 := (r_told.mono st.ex)
                  rw [hl106] at rc107
                  obtain ⟨p108, xs109, hv, hs110, hr111⟩ := Rep.st w rc107
                  cases hv
                  obtain ⟨x112, hx113, P⟩ := P.ix
                  obtain ⟨u114, hu, r115⟩ := RepL.atE hr111 hx113
                  refine h_ixT hs110 hu ?_
                  refine h_nil ?_
                  refine ⟨B47, u103, x101, u114, x112, w, rfl, r104, r115, (P.bind.noErr).mono (fun x116 P => ?_) (fun _ z => z.elim)⟩
                  refine fun v120 B117 H118 s119 r121 => ?_
                  replace r104 := r104.mono s119.ex
                  replace r115 := r115.mono s119.ex
                  replace st := st.go s119 go0
                  replace sj69 := sj69.go s119 go0
                  replace sj73 := sj73.go s119 go0
                  replace w := s119.ok
                  cases r121
                  refine h_bl ?_
                  exact kk75 _ _ ⟨_, sj73⟩ P.ok
                · replace P := P.iteF c1
                  exact kk75 _ _ ⟨_, sj73⟩ P.ok
              · replace P := P.iteF c1
                exact kk75 _ _ ⟨_, sj73⟩ P.ok
            rintro b122 H124 ⟨B123, s125⟩ P
            replace st := st.go s125 go0
            replace sj69 := sj69.go s125 go0
            replace w := s125.ok
            refine h_ite (fun c1 => ?_) (fun c1 => ?_)
            · replace P := P.iteT c1
              refine h_if ?_
              refine h_tB ?_
              refine h_call ?_
              refine h_cons ?_
              refine h_op ?_
              refine h_var rfl ?_
              refine h_c ?_
              obtain ⟨l126, hl127, P⟩ := P.asT
              have rc128 := (r_told.mono st.ex)
              rw [hl127] at rc128
              obtain ⟨p129, xs130, hv, hs131, hr132⟩ := Rep.st w rc128
              cases hv
              obtain ⟨x133, hx134, P⟩ := P.ix
              obtain ⟨u135, hu, r136⟩ := RepL.atE hr132 hx134
              refine h_ixT hs131 hu ?_
              refine h_cons ?_
              refine h_c ?_
              refine h_cons ?_
              refine h_c ?_
              refine h_nil ?_
              refine ⟨B123, u135, x133, 0, 255, w, rfl, r136, (P.bind.noErr).mono (fun x137 P => ?_) (fun _ z => z.elim)⟩
              refine fun v141 B138 H139 s140 r142 => ?_
              replace r136 := r136.mono s140.ex
              replace st := st.go s140 go0
              replace sj69 := sj69.go s140 go0
              replace w := s140.ok
              cases r142
              refine h_bl ?_
              refine h_ite (fun c1 => ?_) (fun c1 => ?_)
              · replace P := P.iteT c1
                refine h_ret ?_
                refine h_makeBE ?_
                refine h_cons ?_
                refine h_op ?_
                refine h_var rfl ?_
                refine h_c ?_
                obtain ⟨l143, hl144, P⟩ := P.asT
                have rc145 := (r_told.mono st.ex)
                rw [hl144] at rc145
                obtain ⟨p146, xs147, hv, hs148, hr149⟩ := Rep.st w rc145
                cases hv
                obtain ⟨x150, hx151, P⟩ := P.ix
                obtain ⟨u152, hu, r153⟩ := RepL.atE hr149 hx151
                refine h_ixT hs148 hu ?_
                refine h_cons ?_
                refine h_op ?_
                refine h_var rfl ?_
                refine h_c ?_
                obtain ⟨l154, hl155, P⟩ := P.asT
                have rc156 := (r_told.mono st.ex)
                rw [hl155] at rc156
                obtain ⟨p157, xs158, hv, hs159, hr160⟩ := Rep.st w rc156
                cases hv
                obtain ⟨x161, hx162, P⟩ := P.ix
                obtain ⟨u163, hu, r164⟩ := RepL.atE hr160 hx162
                refine h_ixT hs159 hu ?_
                refine h_nil ?_
                refine h_cons ?_
                refine h_op ?_
                refine h_var rfl ?_
                refine h_c ?_
                obtain ⟨l165, hl166, P⟩ := P.asT
                have rc167 := (r_told.mono st.ex)
                rw [hl166] at rc167
                obtain ⟨p168, xs169, hv, hs170, hr171⟩ := Rep.st w rc167
                cases hv
                obtain ⟨x172, hx173, P⟩ := P.ix
                obtain ⟨u174, hu, r175⟩ := RepL.atE hr171 hx173
                refine h_ixT hs170 hu ?_
                refine h_nil ?_
                obtain ⟨i176, hi177, P⟩ := P.asI
                have rc178 := r153
                rw [hi177] at rc178
                cases rc178
                obtain ⟨i179, hi180, P⟩ := P.asI
                have rc181 := r164
                rw [hi180] at rc181
                cases rc181
                obtain ⟨i182, hi183, P⟩ := P.asI
                have rc184 := r175
                rw [hi183] at rc184
                cases rc184
                refine h_make (us := [.int i176, .int i179, .int i182]) (ns := ["back", "cell", "add"]) rfl w T_Moved.toKC lo_Moved (ds := [("back", enc (i176 : Int)), ("cell", enc (i179 : Int)), ("add", enc (i182 : Int))]) (.cons (Rep.int _) (.cons (Rep.int _) (.cons (Rep.int _) .nil))) (fun p185 B186 H187 s188 r189 => ?_)
                replace r153 := r153.mono s188.ex
                replace r164 := r164.mono s188.ex
                replace r175 := r175.mono s188.ex
                replace st := st.go s188 go0
                replace sj69 := sj69.go s188 go0
                replace w := s188.ok
                replace r189 : Rep K B186 (.ref p185) (enc (K_Rule.Moved i176 i179 i182)) := r189
                exact (kr72 _ P.ok) _ _ _ st r189
              · replace P := P.iteF c1
                refine h_next ?_
                refine h_nx ?_
                exact kk71 () _ _ ⟨_, sj69, rfl⟩ P.ok
            · replace P := P.iteF c1
              refine h_next ?_
              refine h_nx ?_
              exact kk71 () _ _ ⟨_, sj69, rfl⟩ P.ok
          rintro a190 _ H192 ⟨B191, s193, rfl⟩ P
          replace st := st.go s193 go0
          replace w := s193.ok
          have wj195 := w
          have sj194 := Stp.refl (W := []) w
          refine h_joinF P (fun (a : Unit) σ' H' => ∃ (B' : Hp), Stp [] B191 H192 B' H' ∧ σ' = [some ((.ref p4))]) (fun N Tkr197 kk196 kr197 P => h_if ?_) ?_
          · skip
            have wj199 := w
            have sj198 := Stp.refl (W := []) w
            refine h_condJ P (fun H' => ∃ B', Stp [] B191 H192 B' H') (fun N kk200 P => ?_) ?_
            · skip
              refine h_tand ?_
              refine h_test ?_
              refine h_op ?_
              refine h_op ?_
              refine h_var rfl ?_
              refine h_c ?_
              obtain ⟨l201, hl202, P⟩ := P.asT
              have rc203 := (r_told.mono st.ex)
              rw [hl202] at rc203
              obtain ⟨p204, xs205, hv, hs206, hr207⟩ := Rep.st w rc203
              cases hv
              obtain ⟨x208, hx209, P⟩ := P.ix
              obtain ⟨u210, hu, r211⟩ := RepL.atE hr207 hx209
              refine h_ixT hs206 hu ?_
              refine h_c ?_
              obtain ⟨gd, P⟩ := P.guard
              refine h_eqD (d := x208) (e := (enc ("mixed" : Str))) w r211 (Rep.str _) gd ?_
              refine h_bl ?_
              refine h_ite (fun c1 => ?_) (fun c1 => ?_)
              · replace P := P.iteT c1
                refine h_test ?_
                refine h_op ?_
                refine h_cb ?_
                refine h_cons ?_
                refine h_var rfl ?_
                refine h_nil ?_
                obtain ⟨l212, hl213, P⟩ := P.asT
                have rc214 := (r_told.mono st.ex)
                rw [hl213] at rc214
                obtain ⟨p215, xs216, hv, hs217, hr218⟩ := Rep.st w rc214
                cases hv
                refine h_lenTl hs217 hr218 ?_
                refine h_c ?_
                refine h_eqI ?_
                refine h_bl ?_
                exact kk200 _ _ ⟨_, sj198⟩ P.ok
              · replace P := P.iteF c1
                exact kk200 _ _ ⟨_, sj198⟩ P.ok
            rintro b219 H221 ⟨B220, s222⟩ P
            replace st := st.go s222 go0
            replace sj194 := sj194.go s222 go0
            replace w := s222.ok
            refine h_ite (fun c1 => ?_) (fun c1 => ?_)
            · replace P := P.iteT c1
              refine h_if ?_
              have wj224 := w
              have sj223 := Stp.refl (W := []) w
              refine h_condJ P (fun H' => ∃ B', Stp [] B220 H221 B' H') (fun N kk225 P => ?_) ?_
              · skip
                refine h_tand ?_
                refine h_tB ?_
                refine h_call ?_
                refine h_cons ?_
                refine h_op ?_
                refine h_var rfl ?_
                refine h_c ?_
                obtain ⟨l226, hl227, P⟩ := P.asT
                have rc228 := (r_told.mono st.ex)
                rw [hl227] at rc228
                obtain ⟨p229, xs230, hv, hs231, hr232⟩ := Rep.st w rc228
                cases hv
                obtain ⟨x233, hx234, P⟩ := P.ix
                obtain ⟨u235, hu, r236⟩ := RepL.atE hr232 hx234
                refine h_ixT hs231 hu ?_
                refine h_cons ?_
                refine h_op ?_
                refine h_var rfl ?_
                refine h_c ?_
                obtain ⟨l237, hl238, P⟩ := P.asT
                have rc239 := (r_told.mono st.ex)
                rw [hl238] at rc239
                obtain ⟨p240, xs241, hv, hs242, hr243⟩ := Rep.st w rc239
                cases hv
                obtain ⟨x244, hx245, P⟩ := P.ix
                obtain ⟨u246, hu, r247⟩ := RepL.atE hr243 hx245
                refine h_ixT hs242 hu ?_
                refine h_nil ?_
                refine ⟨B220, u235, x233, u246, x244, w, rfl, r236, r247, (P.bind.noErr).mono (fun x248 P => ?_) (fun _ z => z.elim)⟩
                refine fun v252 B249 H250 s251 r253 => ?_
                replace r236 := r236.mono s251.ex
                replace r247 := r247.mono s251.ex
                replace st := st.go s251 go0
                replace sj194 := sj194.go s251 go0
                replace sj223 := sj223.go s251 go0
                replace w := s251.ok
                cases r253
                refine h_bl ?_
                refine h_ite (fun c1 => ?_) (fun c1 => ?_)
                · replace P := P.iteT c1
                  refine h_tB ?_
                  refine h_callK0 ?_
                  refine h_cons ?_
                  refine h_op ?_
                  refine h_var rfl ?_
                  refine h_c ?_
                  obtain ⟨l254, hl255, P⟩ := P.asT
                  have rc256 := (r_told.mono st.ex)
                  rw [hl255] at rc256
                  obtain ⟨p257, xs258, hv, hs259, hr260⟩ := Rep.st w rc256
                  cases hv
                  obtain ⟨x261, hx262, P⟩ := P.ix
                  obtain ⟨u263, hu, r264⟩ := RepL.atE hr260 hx262
                  refine h_ixT hs259 hu ?_
                  refine h_cons ?_
                  refine h_op ?_
                  refine h_var rfl ?_
                  refine h_c ?_
                  obtain ⟨l265, hl266, P⟩ := P.asT
                  have rc267 := (r_told.mono st.ex)
                  rw [hl266] at rc267
                  obtain ⟨p268, xs269, hv, hs270, hr271⟩ := Rep.st w rc267
                  cases hv
                  obtain ⟨x272, hx273, P⟩ := P.ix
                  obtain ⟨u274, hu, r275⟩ := RepL.atE hr271 hx273
                  refine h_ixT hs270 hu ?_
                  refine h_nil ?_
                  refine ⟨B249, u263, x261, u274, x272, w, rfl, r264, r275, (P.bind.noErr).mono (fun x276 P => ?_) (fun _ z => z.elim)⟩
                  refine fun v280 B277 H278 s279 r281 => ?_
                  replace r264 := r264.mono s279.ex
                  replace r275 := r275.mono s279.ex
                  replace st := st.go s279 go0
                  replace sj194 := sj194.go s279 go0
                  replace sj223 := sj223.go s279 go0
                  replace w := s279.ok
                  cases r281
                  refine h_bl ?_
                  exact kk225 _ _ ⟨_, sj223⟩ P.ok
                · replace P := P.iteF c1
                  exact kk225 _ _ ⟨_, sj223⟩ P.ok
              rintro b282 H284 ⟨B283, s285⟩ P
              replace st := st.go s285 go0
              replace sj194 := sj194.go s285 go0
              replace w := s285.ok
              refine h_ite (fun c1 => ?_) (fun c1 => ?_)
              · replace P := P.iteT c1
                refine h_ret ?_
                refine h_makeBE ?_
                refine h_cons ?_
                refine h_op ?_
                refine h_var rfl ?_
                refine h_c ?_
                obtain ⟨l286, hl287, P⟩ := P.asT
                have rc288 := (r_told.mono st.ex)
                rw [hl287] at rc288
                obtain ⟨p289, xs290, hv, hs291, hr292⟩ := Rep.st w rc288
                cases hv
                obtain ⟨x293, hx294, P⟩ := P.ix
                obtain ⟨u295, hu, r296⟩ := RepL.atE hr292 hx294
                refine h_ixT hs291 hu ?_
                refine h_cons ?_
                refine h_op ?_
                refine h_var rfl ?_
                refine h_c ?_
                obtain ⟨l297, hl298, P⟩ := P.asT
                have rc299 := (r_told.mono st.ex)
                rw [hl298] at rc299
                obtain ⟨p300, xs301, hv, hs302, hr303⟩ := Rep.st w rc299
                cases hv
                obtain ⟨x304, hx305, P⟩ := P.ix
                obtain ⟨u306, hu, r307⟩ := RepL.atE hr303 hx305
                refine h_ixT hs302 hu ?_
                refine h_nil ?_
                refine h_cons ?_
                refine h_op ?_
                refine h_var rfl ?_
                refine h_c ?_
                obtain ⟨l308, hl309, P⟩ := P.asT
                have rc310 := (r_told.mono st.ex)
                rw [hl309] at rc310
                obtain ⟨p311, xs312, hv, hs313, hr314⟩ := Rep.st w rc310
                cases hv
                obtain ⟨x315, hx316, P⟩ := P.ix
                obtain ⟨u317, hu, r318⟩ := RepL.atE hr314 hx316
                refine h_ixT hs313 hu ?_
                refine h_cons ?_
                refine h_op ?_
                refine h_var rfl ?_
                refine h_c ?_
                obtain ⟨l319, hl320, P⟩ := P.asT
                have rc321 := (r_told.mono st.ex)
                rw [hl320] at rc321
                obtain ⟨p322, xs323, hv, hs324, hr325⟩ := Rep.st w rc321
                cases hv
                obtain ⟨x326, hx327, P⟩ := P.ix
                obtain ⟨u328, hu, r329⟩ := RepL.atE hr325 hx327
                refine h_ixT hs324 hu ?_
                refine h_nil ?_
                obtain ⟨i330, hi331, P⟩ := P.asI
                have rc332 := r296
                rw [hi331] at rc332
                cases rc332
                obtain ⟨i333, hi334, P⟩ := P.asI
                have rc335 := r307
                rw [hi334] at rc335
                cases rc335
                obtain ⟨i336, hi337, P⟩ := P.asI
                have rc338 := r318
                rw [hi337] at rc338
                cases rc338
                obtain ⟨i339, hi340, P⟩ := P.asI
                have rc341 := r329
                rw [hi340] at rc341
                cases rc341
                refine h_make (us := [.int i330, .int i333, .int i336, .int i339]) (ns := ["back", "cell", "other_back", "other_cell"]) rfl w T_Mixed.toKC lo_Mixed (ds := [("back", enc (i330 : Int)), ("cell", enc (i333 : Int)), ("other_back", enc (i336 : Int)), ("other_cell", enc (i339 : Int))]) (.cons (Rep.int _) (.cons (Rep.int _) (.cons (Rep.int _) (.cons (Rep.int _) .nil)))) (fun p342 B343 H344 s345 r346 => ?_)
                replace r296 := r296.mono s345.ex
                replace r307 := r307.mono s345.ex
                replace r318 := r318.mono s345.ex
                replace r329 := r329.mono s345.ex
                replace st := st.go s345 go0
                replace sj194 := sj194.go s345 go0
                replace w := s345.ok
                replace r346 : Rep K B343 (.ref p342) (enc (K_Rule.Mixed i330 i333 i336 i339)) := r346
                exact (kr197 _ P.ok) _ _ _ st r346
              · replace P := P.iteF c1
                refine h_next ?_
                refine h_nx ?_
                exact kk196 () _ _ ⟨_, sj194, rfl⟩ P.ok
            · replace P := P.iteF c1
              refine h_next ?_
              refine h_nx ?_
              exact kk196 () _ _ ⟨_, sj194, rfl⟩ P.ok
          rintro a347 _ H349 ⟨B348, s350, rfl⟩ P
          replace st := st.go s350 go0
          replace w := s350.ok
          exact P.err _ _ _ T_NoRule.g st
theorem ok__law_cell_at {f : Addr} {fd : FuncData}  (F : Fun K "_law_cell_at" "_law_cell_at" s__law_cell_at f fd) (bI_len : mg "len" = none) : FnOk Pr wo K mg base CX0 1 f fd ["_law_script", "_law_k"] (sp__law_cell_at K) := by
  refine F.ok sc__law_cell_at (fun vs H Q E h => ?_) (fun cdv A outer s H0 vs Q E hr h => ?_)
  · obtain ⟨_, _, _, _, _, rfl, _⟩ := h; rfl
  · obtain ⟨B0, v_script, a_script, a_k, w, rfl, r_script, P⟩ := h
    have w0 := w
    have hu := hu_of hr
    have hu64 := hu64_of hr
    have hu65 := hu65_of hr
    refine ⟨_, (pss_cons (ps_if (pt_cmpR op_lt (pv 1) (pe_callB (r := rLenY K) cr_len (by rfl) bI_len PySem.boot_len (pa_cons (pv 0) pa_nil)) (nomark _)) (pss_one (ps_ret (pe_ix (r := rIxL K) ix_list (pv 0) (pv 1) (fun _ _ => rfl)))) pss_nil)
      (pss_cons (ps_if (pt_cmpR (r := rEqD K) (op_eqD hu64) (pv 0) (pe_lst pa_nil) (nomark _)) (pss_one (ps_ret (pv 1))) pss_nil)
      (pss_one (ps_ret (pe_op op_add (pe_ix (r := rIxL K) ix_list (pv 0) (pe_op op_mod (pv 1) (pe_callB (r := rLenY K) cr_len (by rfl) bI_len PySem.boot_len (pa_cons (pv 0) pa_nil))) (fun _ _ => rfl)) (pe_op op_mul pe_int (pv 1))))))), ?_⟩
    unfold l_cell_at at P
    have st := Stp.refl (W := []) w
    refine h_seq <| h_if ?_
    refine h_test ?_
    refine h_op ?_
    refine h_var rfl ?_
    refine h_cb ?_
    refine h_cons ?_
    refine h_var rfl ?_
    refine h_nil ?_
    obtain ⟨p1, xs2, rfl, hs3, hr4⟩ := Bor.sq (r_script.step st)
    refine h_len hs3 hr4 ?_
    refine h_I0 ?_
    refine h_bl ?_
    refine h_ite (fun c1 => ?_) (fun c1 => ?_)
    · replace P := P.iteT c1
      refine h_ret ?_
      refine h_op ?_
      refine h_var rfl ?_
      refine h_var rfl ?_
      obtain ⟨p5, xs6, hv, hs7, hr8⟩ := Bor.sq (r_script.step st)
      cases hv
      obtain ⟨x9, hx10, P⟩ := P.ix
      obtain ⟨u11, hu, r12⟩ := RepL.atE hr8 hx10
      refine h_ixL hs7 hu ?_
      cases r12
      exact P.ok _ _ _ st (Rep.int _)
    · replace P := P.iteF c1
      refine h_next ?_
      refine h_nx ?_
      refine h_seq <| h_if ?_
      refine h_test ?_
      refine h_op ?_
      refine h_var rfl ?_
      refine h_lst ?_
      refine h_nil ?_
      refine h_newL w (ds := (([] : List D)).map enc) (K := K) .nil (fun p13 B14 H15 s16 r17 => ?_) (by show 0 ≤ sizeLine; decide)
      replace st := st.go s16 go0
      replace w := s16.ok
      replace r17 : Rep K B14 (.ref p13) (enc ([] : List D)) := r17
      obtain ⟨gd, P⟩ := P.guard
      obtain ⟨p18, xs19, hv, hs20, hr21⟩ := Bor.sq (r_script.step st)
      cases hv
      refine h_eqC (d := (enc a_script)) (e := (enc ([] : List D))) (SqL.cp w hs20 hr21) (Rep.cp w r17) gd ?_
      refine h_bl ?_
      refine h_ite (fun c1 => ?_) (fun c1 => ?_)
      · replace P := P.iteT c1
        refine h_ret ?_
        refine h_var rfl ?_
        exact P.ok _ _ _ st (Rep.int _)
      · replace P := P.iteF c1
        refine h_next ?_
        refine h_nx ?_
        refine h_ret ?_
        refine h_op ?_
        refine h_op ?_
        refine h_var rfl ?_
        refine h_op ?_
        refine h_var rfl ?_
        refine h_cb ?_
        refine h_cons ?_
        refine h_var rfl ?_
        refine h_nil ?_
        obtain ⟨p22, xs23, hv, hs24, hr25⟩ := Bor.sq (r_script.step st)
        cases hv
        refine h_len hs24 hr25 ?_
        obtain ⟨gd, P⟩ := P.guard
        refine h_I gd ?_
        obtain ⟨p26, xs27, hv, hs28, hr29⟩ := Bor.sq (r_script.step st)
        cases hv
        obtain ⟨x30, hx31, P⟩ := P.ix
        obtain ⟨u32, hu, r33⟩ := RepL.atE hr29 hx31
        refine h_ixL hs28 hu ?_
        cases r33
        refine h_op ?_
        refine h_c ?_
        refine h_var rfl ?_
        refine h_I (.inl ⟨by decide +kernel, by decide +kernel⟩) ?_
        refine h_I0 ?_
        exact P.ok _ _ _ st (Rep.int _)
theorem ok__law_well {f : Addr} {fd : FuncData}  (F : Fun K "_law_well" "_law_well" s__law_well f fd) {f__law_cell_at : Addr} {d__law_cell_at : FuncData} (g__law_cell_at : mg "_law_cell_at" = some (.ref f__law_cell_at)) (k__law_cell_at : PySem.W.keepIn K (.ref f__law_cell_at) = true) (b__law_cell_at : L2.Binds K d__law_cell_at ["_law_script", "_law_k"] []) (G__law_cell_at : FnOk Pr wo K mg base CX0 1 f__law_cell_at d__law_cell_at ["_law_script", "_law_k"] (sp__law_cell_at K)) : FnOk Pr wo K mg base CX0 2 f fd ["_law_script", "_law_k"] (sp__law_well K) := by
  refine F.ok sc__law_well (fun vs H Q E h => ?_) (fun cdv A outer s H0 vs Q E hr h => ?_)
  · obtain ⟨_, _, _, _, _, rfl, _⟩ := h; rfl
  · obtain ⟨B0, v_script, a_script, a_k, w, rfl, r_script, P⟩ := h
    have w0 := w
    have hu := hu_of hr
    have hu64 := hu64_of hr
    have hu65 := hu65_of hr
    have hr1 : Room 1 _ := hr.mono (by decide)
    refine ⟨_, (pss_cons (ps_set (i := 2) sc__law_well.nd rfl (by first | exact Or.inl rfl | exact Or.inr rfl) (pe_call G__law_cell_at hr1 rfl g__law_cell_at k__law_cell_at b__law_cell_at .nil pass0 (pa_cons (pv 0) (pa_cons (pv 1) pa_nil))))
      (pss_one (ps_ret (pe_lst (pa_cons (pv 2) (pa_cons (pe_op op_mod (pv 2) pe_int) (pa_cons pe_int pa_nil))))))), ?_⟩
    unfold l_well at P
    have st := Stp.refl (W := []) w
    refine h_set ?_
    refine h_call ?_
    refine h_cons ?_
    refine h_var rfl ?_
    refine h_cons ?_
    refine h_var rfl ?_
    refine h_nil ?_
    refine ⟨B0, v_script, a_script, a_k, w, rfl, ((r_script.step st).w sub0), (P.bind).mono (fun x1 P => ?_) (fun _ z => z)⟩
    refine fun v5 B2 H3 s4 r6 => ?_
    replace st := st.go s4 go0
    replace w := s4.ok
    cases r6
    refine h_ret ?_
    refine h_lst ?_
    refine h_cons ?_
    refine h_var rfl ?_
    refine h_cons ?_
    refine h_op ?_
    refine h_var rfl ?_
    refine h_c ?_
    refine h_I (by decide +kernel) ?_
    refine h_cons ?_
    refine h_c ?_
    refine h_nil ?_
    refine h_newM w (ds := (([x1, (x1 % 2147483647), 0] : List Int)).map enc) (K := K) (.cons (Rep.int _) (.cons (Rep.int _) (.cons (Rep.int _) .nil))) (fun p7 H8 hn11 s9 m10 => ?_) (by show 3 ≤ sizeLine; decide)
    have n12 := st.nn hn11
    replace st := st.go s9 go0
    replace w := s9.ok
    exact P.ok _ _ _ st n12 m10
theorem ok__law_draw {f : Addr} {fd : FuncData}  (F : Fun K "_law_draw" "_law_draw" s__law_draw f fd)  : FnOk Pr wo K mg base CX0 1 f fd ["_law_well_here", "_law_many"] (sp__law_draw K) := by
  refine F.ok sc__law_draw (fun vs H Q E h => ?_) (fun cdv A outer s H0 vs Q E hr h => ?_)
  · obtain ⟨_, _, _, _, _, rfl, _⟩ := h; rfl
  · obtain ⟨B0, p_well_here, a_well_here, a_many, w, rfl, m_well_here, P⟩ := h
    have w0 := w
    have hu := hu_of hr
    have hu64 := hu64_of hr
    have hu65 := hu65_of hr
    refine ⟨_, (pss_cons (ps_if (pt_cmpR op_ge (pe_ix (r := rIxL K) ix_list (pv 0) pe_int (fun _ _ => rfl)) (pe_op op_pow pe_int pe_int) (nomark _)) (pss_cons (ps_set (i := 2) sc__law_draw.nd rfl (by first | exact Or.inl rfl | exact Or.inr rfl) (pe_op op_mod (pe_ix (r := rIxL K) ix_list (pv 0) pe_int (fun _ _ => rfl)) (pv 1)))
      (pss_cons (ps_asg (pe_op op_fdivW (pe_ix (r := rIxL K) ix_list (pv 0) pe_int (fun _ _ => rfl)) (pv 1)) (pg_sub (pv 0) pe_int set_list))
      (pss_one (ps_ret (pv 2))))) pss_nil)
      (pss_cons (ps_asg (pe_op op_add (pe_ix (r := rIxL K) ix_list (pv 0) pe_int (fun _ _ => rfl)) pe_int) (pg_sub (pv 0) pe_int set_list))
      (pss_cons (ps_set (i := 3) sc__law_draw.nd rfl (by first | exact Or.inl rfl | exact Or.inr rfl) (pe_op op_mod (pe_op op_mul (pe_op op_add (pe_op op_add (pe_ix (r := rIxL K) ix_list (pv 0) pe_int (fun _ _ => rfl)) (pe_op op_mul pe_int (pe_ix (r := rIxL K) ix_list (pv 0) pe_int (fun _ _ => rfl)))) pe_int) pe_int) pe_int))
      (pss_cons (ps_set (i := 3) sc__law_draw.nd rfl (by first | exact Or.inl rfl | exact Or.inr rfl) (pe_op op_mod (pe_op op_mulW (pv 3) (pe_op op_add (pe_op op_fdiv (pv 3) pe_int) pe_int)) pe_int))
      (pss_one (ps_ret (pe_op op_mod (pe_op op_mod (pe_op op_mulW (pv 3) (pe_op op_add (pe_op op_fdiv (pv 3) pe_int) pe_int)) pe_int) (pv 1)))))))), ?_⟩
    unfold l_draw at P
    have st := Stp.refl (W := [p_well_here]) w
    refine h_seq <| h_if ?_
    refine h_test ?_
    refine h_op ?_
    refine h_op ?_
    refine h_var rfl ?_
    refine h_c ?_
    obtain ⟨xs2, hv, hs3, hr4⟩ := Mu.sq m_well_here
    obtain ⟨x5, hx6, P⟩ := P.ix
    obtain ⟨u7, hu, r8⟩ := RepL.atE hr4 hx6
    refine h_ixL hs3 hu ?_
    cases r8
    refine h_op (h_c (h_c (h_pow (k := 1000000000000000000) (by decide +kernel) (by decide +kernel) ?_)))
    refine h_I0 ?_
    refine h_bl ?_
    refine h_ite (fun c1 => ?_) (fun c1 => ?_)
    · replace P := P.iteT c1
      refine h_set ?_
      refine h_op ?_
      refine h_op ?_
      refine h_var rfl ?_
      refine h_c ?_
      obtain ⟨xs10, hv, hs11, hr12⟩ := Mu.sq m_well_here
      obtain ⟨x13, hx14, P⟩ := P.ix
      obtain ⟨u15, hu, r16⟩ := RepL.atE hr12 hx14
      refine h_ixL hs11 hu ?_
      cases r16
      refine h_var rfl ?_
      obtain ⟨gd, P⟩ := P.guard
      refine h_I gd ?_
      replace P := P.lt
      generalize hx : (x13 % a_many) = x17 at P ⊢
      refine h_seq ?_
      refine h_asg ?_
      refine h_op ?_
      refine h_op ?_
      refine h_var rfl ?_
      refine h_c ?_
      obtain ⟨xs19, hv, hs20, hr21⟩ := Mu.sq m_well_here
      obtain ⟨x22, hx23, P⟩ := P.ix
      obtain ⟨u24, hu, r25⟩ := RepL.atE hr21 hx23
      refine h_ixL hs20 hu ?_
      cases r25
      refine h_var rfl ?_
      obtain ⟨gd, P⟩ := P.guard
      refine h_I gd ?_
      refine h_sub ?_
      refine h_var rfl ?_
      refine h_c ?_
      obtain ⟨j27, hj28, P⟩ := P.set
      refine h_setL (b := (x22 / a_many)) w m_well_here (Rep.int _) hj28 (fun H29 s30 m_well_here => ?_)
      replace st := st.go s30 (go1 (.inl (by simp)))
      replace w := s30.ok
      generalize hl : List.set a_well_here j27 (x22 / a_many) = x26 at *
      refine h_nx ?_
      refine h_ret ?_
      refine h_var rfl ?_
      exact P.ok _ _ _ st m_well_here (Rep.int _)
    · replace P := P.iteF c1
      refine h_next ?_
      refine h_nx ?_
      refine h_seq ?_
      refine h_asg ?_
      refine h_op ?_
      refine h_op ?_
      refine h_var rfl ?_
      refine h_c ?_
      obtain ⟨xs32, hv, hs33, hr34⟩ := Mu.sq m_well_here
      obtain ⟨x35, hx36, P⟩ := P.ix
      obtain ⟨u37, hu, r38⟩ := RepL.atE hr34 hx36
      refine h_ixL hs33 hu ?_
      cases r38
      refine h_c ?_
      refine h_I0 ?_
      refine h_sub ?_
      refine h_var rfl ?_
      refine h_c ?_
      obtain ⟨j40, hj41, P⟩ := P.set
      refine h_setL (b := (x35 + 1)) w m_well_here (Rep.int _) hj41 (fun H42 s43 m_well_here => ?_)
      replace st := st.go s43 (go1 (.inl (by simp)))
      replace w := s43.ok
      generalize hl : List.set a_well_here j40 (x35 + 1) = x39 at *
      refine h_nx ?_
      refine h_set ?_
      refine h_op ?_
      refine h_op ?_
      refine h_op ?_
      refine h_op ?_
      refine h_op ?_
      refine h_var rfl ?_
      refine h_c ?_
      obtain ⟨xs45, hv, hs46, hr47⟩ := Mu.sq m_well_here
      obtain ⟨x48, hx49, P⟩ := P.ix
      obtain ⟨u50, hu, r51⟩ := RepL.atE hr47 hx49
      refine h_ixL hs46 hu ?_
      cases r51
      refine h_op ?_
      refine h_c ?_
      refine h_op ?_
      refine h_var rfl ?_
      refine h_c ?_
      obtain ⟨xs53, hv, hs54, hr55⟩ := Mu.sq m_well_here
      obtain ⟨x56, hx57, P⟩ := P.ix
      obtain ⟨u58, hu, r59⟩ := RepL.atE hr55 hx57
      refine h_ixL hs54 hu ?_
      cases r59
      refine h_I (.inl ⟨by decide +kernel, by decide +kernel⟩) ?_
      refine h_I0 ?_
      refine h_c ?_
      refine h_I0 ?_
      refine h_c ?_
      refine h_I (.inr ⟨by decide +kernel, by decide +kernel⟩) ?_
      refine h_c ?_
      refine h_I (by decide +kernel) ?_
      replace P := P.lt
      generalize hx : ((((x48 + (7919 * x56)) + 1) * 48271) % 2147483647) = x60 at P ⊢
      refine h_set ?_
      refine h_op ?_
      refine h_op ?_
      refine h_var rfl ?_
      refine h_op ?_
      refine h_op ?_
      refine h_var rfl ?_
      refine h_c ?_
      refine h_I ⟨by decide +kernel, by decide +kernel⟩ ?_
      refine h_c ?_
      refine h_I0 ?_
      obtain ⟨gd, P⟩ := P.guard
      refine h_I gd ?_
      refine h_c ?_
      refine h_I (by decide +kernel) ?_
      replace P := P.lt
      generalize hx : ((x60 * ((x60 / 1009) + 69621)) % 2147483647) = x61 at P ⊢
      refine h_ret ?_
      refine h_op ?_
      refine h_op ?_
      refine h_op ?_
      refine h_var rfl ?_
      refine h_op ?_
      refine h_op ?_
      refine h_var rfl ?_
      refine h_c ?_
      refine h_I ⟨by decide +kernel, by decide +kernel⟩ ?_
      refine h_c ?_
      refine h_I0 ?_
      obtain ⟨gd, P⟩ := P.guard
      refine h_I gd ?_
      refine h_c ?_
      refine h_I (by decide +kernel) ?_
      refine h_var rfl ?_
      obtain ⟨gd, P⟩ := P.guard
      refine h_I gd ?_
      exact P.ok _ _ _ st m_well_here (Rep.int _)
theorem ok__law_whole {f : Addr} {fd : FuncData}  (F : Fun K "_law_whole" "_law_whole" s__law_whole f fd) (bI_isinstance : mg "isinstance" = none) (bI_int : mg "int" = none) (bI_bool : mg "bool" = none) : FnOk Pr wo K mg base CX0 1 f fd ["_law_thing"] (sp__law_whole K) := by
  refine F.ok sc__law_whole (fun vs H Q E h => ?_) (fun cdv A outer s H0 vs Q E hr h => ?_)
  · obtain ⟨_, _, _, _, rfl, _⟩ := h; rfl
  · obtain ⟨B0, v_thing, a_thing, w, rfl, r_thing, P⟩ := h
    have w0 := w
    have hu := hu_of hr
    have hu64 := hu64_of hr
    have hu65 := hu65_of hr
    refine ⟨_, (pss_one (ps_ret (pe_and (pe_callB (r := rIsi K) call_isi (by rfl) bI_isinstance PyProof.Rows.boot_isinstance (pa_cons (pv 0) (pa_cons (pe_bltn (v := .ty "int") (by rfl) bI_int Y.boot_int rfl) pa_nil))) (pe_one (pe_not (pe_callB (r := rIsi K) call_isi (by rfl) bI_isinstance PyProof.Rows.boot_isinstance (pa_cons (pv 0) (pa_cons (pe_bltn (v := .ty "bool") (by rfl) bI_bool Y.boot_bool rfl) pa_nil)))))))), ?_⟩
    unfold l_whole at P
    have st := Stp.refl (W := []) w
    refine h_ret ?_
    refine h_and ?_
    refine h_cb ?_
    refine h_cons ?_
    refine h_var rfl ?_
    refine h_cons ?_
    refine h_c ?_
    refine h_nil ?_
    refine isi (t := "int") w (r_thing.mono st.ex) ?_
    refine h_bl ?_
    refine h_ite (fun c1 => ?_) (fun c1 => ?_)
    · replace P := P.iteT c1
      refine h_not ?_
      refine h_cb ?_
      refine h_cons ?_
      refine h_var rfl ?_
      refine h_cons ?_
      refine h_c ?_
      refine h_nil ?_
      refine isi (t := "bool") w (r_thing.mono st.ex) ?_
      refine h_bl ?_
      exact P.ok _ _ _ st (Rep.bl _)
    · replace P := P.iteF c1
      exact P.ok _ _ _ st (Rep.bl _)
theorem ok__law_edge {f : Addr} {fd : FuncData}  (F : Fun K "_law_edge" "_law_edge" s__law_edge f fd) {f__law_draw : Addr} {d__law_draw : FuncData} (g__law_draw : mg "_law_draw" = some (.ref f__law_draw)) (k__law_draw : PySem.W.keepIn K (.ref f__law_draw) = true) (b__law_draw : L2.Binds K d__law_draw ["_law_well_here", "_law_many"] []) (G__law_draw : FnOk Pr wo K mg base CX0 1 f__law_draw d__law_draw ["_law_well_here", "_law_many"] (sp__law_draw K)) : FnOk Pr wo K mg base CX0 2 f fd ["_law_well_here", "_law_low", "_law_high"] (sp__law_edge K) := by
  refine F.ok sc__law_edge (fun vs H Q E h => ?_) (fun cdv A outer s H0 vs Q E hr h => ?_)
  · obtain ⟨_, _, _, _, _, _, rfl, _⟩ := h; rfl
  · obtain ⟨B0, p_well_here, a_well_here, a_low, a_high, w, rfl, m_well_here, P⟩ := h
    have w0 := w
    have hu := hu_of hr
    have hu64 := hu64_of hr
    have hu65 := hu65_of hr
    have hr1 : Room 1 _ := hr.mono (by decide)
    refine ⟨_, (pss_cons (ps_set (i := 3) sc__law_edge.nd rfl (by first | exact Or.inl rfl | exact Or.inr rfl) (pe_call G__law_draw hr1 rfl g__law_draw k__law_draw b__law_draw .nil pass0 (pa_cons (pv 0) (pa_cons pe_int pa_nil))))
      (pss_cons (ps_if (pt_cmpR op_eq (pv 3) pe_int (nomark _)) (pss_one (ps_ret (pv 1))) pss_nil)
      (pss_cons (ps_if (pt_cmpR op_eq (pv 3) pe_int (nomark _)) (pss_one (ps_ret (pv 2))) pss_nil)
      (pss_one (ps_ret (pe_op op_add (pv 1) (pe_call G__law_draw hr1 rfl g__law_draw k__law_draw b__law_draw .nil pass0 (pa_cons (pv 0) (pa_cons (pe_op op_add (pe_op op_sub (pv 2) (pv 1)) pe_int) pa_nil))))))))), ?_⟩
    unfold l_edge at P
    have st := Stp.refl (W := [p_well_here]) w
    refine h_set ?_
    refine h_call ?_
    refine h_cons ?_
    refine h_var rfl ?_
    refine h_cons ?_
    refine h_c ?_
    refine h_nil ?_
    refine ⟨B0, p_well_here, a_well_here, 6, w, rfl, m_well_here, (P.bind).mono (fun x1 P => ?_) (fun _ z => z)⟩
    refine fun v5 B2 H3 s4 m_well_here r6 => ?_
    replace st := st.go s4 (go1 (.inl (by simp)))
    replace w := s4.ok
    cases r6
    refine h_seq <| h_if ?_
    refine h_test ?_
    refine h_op ?_
    refine h_var rfl ?_
    refine h_c ?_
    refine h_eqI ?_
    refine h_bl ?_
    refine h_ite (fun c1 => ?_) (fun c1 => ?_)
    · replace P := P.iteT c1
      refine h_ret ?_
      refine h_var rfl ?_
      exact P.ok _ _ _ st m_well_here (Rep.int _)
    · replace P := P.iteF c1
      refine h_next ?_
      refine h_nx ?_
      refine h_seq <| h_if ?_
      refine h_test ?_
      refine h_op ?_
      refine h_var rfl ?_
      refine h_c ?_
      refine h_eqI ?_
      refine h_bl ?_
      refine h_ite (fun c1 => ?_) (fun c1 => ?_)
      · replace P := P.iteT c1
        refine h_ret ?_
        refine h_var rfl ?_
        exact P.ok _ _ _ st m_well_here (Rep.int _)
      · replace P := P.iteF c1
        refine h_next ?_
        refine h_nx ?_
        refine h_ret ?_
        refine h_op ?_
        refine h_var rfl ?_
        refine h_call ?_
        refine h_cons ?_
        refine h_var rfl ?_
        refine h_cons ?_
        refine h_op ?_
        refine h_op ?_
        refine h_var rfl ?_
        refine h_var rfl ?_
        refine h_I0 ?_
        refine h_c ?_
        refine h_I0 ?_
        refine h_nil ?_
        refine ⟨B2, p_well_here, x1.2, ((a_high - a_low) + 1), w, rfl, m_well_here, (P.bind).mono (fun x7 P => ?_) (fun _ z => z)⟩
        refine fun v11 B8 H9 s10 m_well_here r12 => ?_
        replace st := st.go s10 (go1 (.inl (by simp)))
        replace w := s10.ok
        cases r12
        refine h_I0 ?_
        exact P.ok _ _ _ st m_well_here (Rep.int _)
theorem ok__law_rule {f : Addr} {fd : FuncData}  (F : Fun K "_law_rule" "_law_rule" s__law_rule f fd) {f__law_draw : Addr} {d__law_draw : FuncData} (g__law_draw : mg "_law_draw" = some (.ref f__law_draw)) (k__law_draw : PySem.W.keepIn K (.ref f__law_draw) = true) (b__law_draw : L2.Binds K d__law_draw ["_law_well_here", "_law_many"] []) (G__law_draw : FnOk Pr wo K mg base CX0 1 f__law_draw d__law_draw ["_law_well_here", "_law_many"] (sp__law_draw K)) {f__law_edge : Addr} {d__law_edge : FuncData} (g__law_edge : mg "_law_edge" = some (.ref f__law_edge)) (k__law_edge : PySem.W.keepIn K (.ref f__law_edge) = true) (b__law_edge : L2.Binds K d__law_edge ["_law_well_here", "_law_low", "_law_high"] []) (G__law_edge : FnOk Pr wo K mg base CX0 2 f__law_edge d__law_edge ["_law_well_here", "_law_low", "_law_high"] (sp__law_edge K)) : FnOk Pr wo K mg base CX0 3 f fd ["_law_well_here"] (sp__law_rule K) := by
  refine F.ok sc__law_rule (fun vs H Q E h => ?_) (fun cdv A outer s H0 vs Q E hr h => ?_)
  · obtain ⟨_, _, _, _, rfl, _⟩ := h; rfl
  · obtain ⟨B0, p_well_here, a_well_here, w, rfl, m_well_here, P⟩ := h
    have w0 := w
    have hu := hu_of hr
    have hu64 := hu64_of hr
    have hu65 := hu65_of hr
    have hr1 : Room 1 _ := hr.mono (by decide)
    have hr2 : Room 2 _ := hr.mono (by decide)
    refine ⟨_, (pss_cons (ps_set (i := 1) sc__law_rule.nd rfl (by first | exact Or.inl rfl | exact Or.inr rfl) (pe_call G__law_draw hr1 rfl g__law_draw k__law_draw b__law_draw .nil pass0 (pa_cons (pv 0) (pa_cons pe_int pa_nil))))
      (pss_cons (ps_set (i := 2) sc__law_rule.nd rfl (by first | exact Or.inl rfl | exact Or.inr rfl) (pe_cmpR op_eq (pe_call G__law_draw hr1 rfl g__law_draw k__law_draw b__law_draw .nil pass0 (pa_cons (pv 0) (pa_cons pe_int pa_nil))) pe_int (nomark _)))
      (pss_cons (ps_if (pt_cmpR op_eq (pv 1) pe_int (nomark _)) (pss_one (ps_ret (pe_tup (pa_cons pe_str (pa_cons (pe_call G__law_edge hr2 rfl g__law_edge k__law_edge b__law_edge .nil pass0 (pa_cons (pv 0) (pa_cons pe_int (pa_cons pe_int pa_nil)))) pa_nil))))) pss_nil)
      (pss_cons (ps_set (i := 3) sc__law_rule.nd rfl (by first | exact Or.inl rfl | exact Or.inr rfl) (pe_call G__law_edge hr2 rfl g__law_edge k__law_edge b__law_edge .nil pass0 (pa_cons (pv 0) (pa_cons pe_int (pa_cons pe_int pa_nil)))))
      (pss_cons (ps_set (i := 4) sc__law_rule.nd rfl (by first | exact Or.inl rfl | exact Or.inr rfl) (pe_call G__law_edge hr2 rfl g__law_edge k__law_edge b__law_edge .nil pass0 (pa_cons (pv 0) (pa_cons pe_int (pa_cons pe_int pa_nil)))))
      (pss_cons (ps_if (pt_cmpR op_eq (pv 1) pe_int (nomark _)) (pss_one (ps_ret (pe_tup (pa_cons pe_str (pa_cons (pv 3) (pa_cons (pv 4) (pa_cons (pe_call G__law_edge hr2 rfl g__law_edge k__law_edge b__law_edge .nil pass0 (pa_cons (pv 0) (pa_cons pe_int (pa_cons pe_int pa_nil)))) pa_nil))))))) pss_nil)
      (pss_cons (ps_if (pt_val (pv 2)) (pss_one (ps_ret (pe_tup (pa_cons pe_str (pa_cons (pv 3) (pa_cons (pv 4) (pa_cons (pv 3) (pa_cons (pv 4) pa_nil)))))))) pss_nil)
      (pss_one (ps_ret (pe_tup (pa_cons pe_str (pa_cons (pv 3) (pa_cons (pv 4) (pa_cons (pe_call G__law_edge hr2 rfl g__law_edge k__law_edge b__law_edge .nil pass0 (pa_cons (pv 0) (pa_cons pe_int (pa_cons pe_int pa_nil)))) (pa_cons (pe_call G__law_edge hr2 rfl g__law_edge k__law_edge b__law_edge .nil pass0 (pa_cons (pv 0) (pa_cons pe_int (pa_cons pe_int pa_nil)))) pa_nil))))))))))))))), ?_⟩
    unfold l_rule at P
    have st := Stp.refl (W := [p_well_here]) w
    refine h_set ?_
    refine h_call ?_
    refine h_cons ?_
    refine h_var rfl ?_
    refine h_cons ?_
    refine h_c ?_
    refine h_nil ?_
    refine ⟨B0, p_well_here, a_well_here, 3, w, rfl, m_well_here, (P.bind).mono (fun x1 P => ?_) (fun _ z => z)⟩
    refine fun v5 B2 H3 s4 m_well_here r6 => ?_
    replace st := st.go s4 (go1 (.inl (by simp)))
    replace w := s4.ok
    cases r6
    refine h_set ?_
    refine h_op ?_
    refine h_call ?_
    refine h_cons ?_
    refine h_var rfl ?_
    refine h_cons ?_
    refine h_c ?_
    refine h_nil ?_
    refine ⟨B2, p_well_here, x1.2, 4, w, rfl, m_well_here, (P.bind).mono (fun x7 P => ?_) (fun _ z => z)⟩
    refine fun v11 B8 H9 s10 m_well_here r12 => ?_
    replace st := st.go s10 (go1 (.inl (by simp)))
    replace w := s10.ok
    cases r12
    refine h_c ?_
    refine h_eqI ?_
    replace P := P.lt
    generalize hx : (decide (x7.1 = 0)) = x13 at P ⊢
    refine h_seq <| h_if ?_
    refine h_test ?_
    refine h_op ?_
    refine h_var rfl ?_
    refine h_c ?_
    refine h_eqI ?_
    refine h_bl ?_
    refine h_ite (fun c1 => ?_) (fun c1 => ?_)
    · replace P := P.iteT c1
      refine h_ret ?_
      refine h_tup ?_
      refine h_cons ?_
      refine h_c ?_
      refine h_cons ?_
      refine h_call ?_
      refine h_cons ?_
      refine h_var rfl ?_
      refine h_cons ?_
      refine h_c ?_
      refine h_cons ?_
      refine h_c ?_
      refine h_nil ?_
      refine ⟨B8, p_well_here, x7.2, 0, 255, w, rfl, m_well_here, (P.bind).mono (fun x14 P => ?_) (fun _ z => z)⟩
      refine fun v18 B15 H16 s17 m_well_here r19 => ?_
      replace st := st.go s17 (go1 (.inl (by simp)))
      replace w := s17.ok
      cases r19
      refine h_nil ?_
      refine h_newT w (K := K) (.cons (Rep.str _) (.cons (Rep.int _) .nil)) (fun p20 B21 H22 s23 r24 => ?_) (by show 2 ≤ sizeLine; decide)
      replace m_well_here := m_well_here.step s23 nm0
      replace st := st.go s23 go0
      replace w := s23.ok
      replace r24 : Rep K B21 (.ref p20) (enc (⟨("plain" : Str), x14.1⟩ : (Tp2 Str Int))) := r24
      exact P.ok _ _ _ st m_well_here r24
    · replace P := P.iteF c1
      refine h_next ?_
      refine h_nx ?_
      refine h_set ?_
      refine h_call ?_
      refine h_cons ?_
      refine h_var rfl ?_
      refine h_cons ?_
      refine h_c ?_
      refine h_cons ?_
      refine h_c ?_
      refine h_nil ?_
      refine ⟨B8, p_well_here, x7.2, 1, 200, w, rfl, m_well_here, (P.bind).mono (fun x25 P => ?_) (fun _ z => z)⟩
      refine fun v29 B26 H27 s28 m_well_here r30 => ?_
      replace st := st.go s28 (go1 (.inl (by simp)))
      replace w := s28.ok
      cases r30
      refine h_set ?_
      refine h_call ?_
      refine h_cons ?_
      refine h_var rfl ?_
      refine h_cons ?_
      refine h_c ?_
      refine h_cons ?_
      refine h_c ?_
      refine h_nil ?_
      refine ⟨B26, p_well_here, x25.2, 0, 15, w, rfl, m_well_here, (P.bind).mono (fun x31 P => ?_) (fun _ z => z)⟩
      refine fun v35 B32 H33 s34 m_well_here r36 => ?_
      replace st := st.go s34 (go1 (.inl (by simp)))
      replace w := s34.ok
      cases r36
      refine h_seq <| h_if ?_
      refine h_test ?_
      refine h_op ?_
      refine h_var rfl ?_
      refine h_c ?_
      refine h_eqI ?_
      refine h_bl ?_
      refine h_ite (fun c1 => ?_) (fun c1 => ?_)
      · replace P := P.iteT c1
        refine h_ret ?_
        refine h_tup ?_
        refine h_cons ?_
        refine h_c ?_
        refine h_cons ?_
        refine h_var rfl ?_
        refine h_cons ?_
        refine h_var rfl ?_
        refine h_cons ?_
        refine h_call ?_
        refine h_cons ?_
        refine h_var rfl ?_
        refine h_cons ?_
        refine h_c ?_
        refine h_cons ?_
        refine h_c ?_
        refine h_nil ?_
        refine ⟨B32, p_well_here, x31.2, 0, 255, w, rfl, m_well_here, (P.bind).mono (fun x37 P => ?_) (fun _ z => z)⟩
        refine fun v41 B38 H39 s40 m_well_here r42 => ?_
        replace st := st.go s40 (go1 (.inl (by simp)))
        replace w := s40.ok
        cases r42
        refine h_nil ?_
        refine h_newT w (K := K) (.cons (Rep.str _) (.cons (Rep.int _) (.cons (Rep.int _) (.cons (Rep.int _) .nil)))) (fun p43 B44 H45 s46 r47 => ?_) (by show 4 ≤ sizeLine; decide)
        replace m_well_here := m_well_here.step s46 nm0
        replace st := st.go s46 go0
        replace w := s46.ok
        replace r47 : Rep K B44 (.ref p43) (enc (⟨("moved" : Str), x25.1, x31.1, x37.1⟩ : (Tp4 Str Int Int Int))) := r47
        exact P.ok _ _ _ st m_well_here r47
      · replace P := P.iteF c1
        refine h_next ?_
        refine h_nx ?_
        refine h_seq <| h_if ?_
        refine h_tB ?_
        refine h_var rfl ?_
        refine h_bl ?_
        refine h_ite (fun c1 => ?_) (fun c1 => ?_)
        · replace P := P.iteT c1
          refine h_ret ?_
          refine h_tup ?_
          refine h_cons ?_
          refine h_c ?_
          refine h_cons ?_
          refine h_var rfl ?_
          refine h_cons ?_
          refine h_var rfl ?_
          refine h_cons ?_
          refine h_var rfl ?_
          refine h_cons ?_
          refine h_var rfl ?_
          refine h_nil ?_
          refine h_newT w (K := K) (.cons (Rep.str _) (.cons (Rep.int _) (.cons (Rep.int _) (.cons (Rep.int _) (.cons (Rep.int _) .nil))))) (fun p48 B49 H50 s51 r52 => ?_) (by show 5 ≤ sizeLine; decide)
          replace m_well_here := m_well_here.step s51 nm0
          replace st := st.go s51 go0
          replace w := s51.ok
          replace r52 : Rep K B49 (.ref p48) (enc (⟨("mixed" : Str), x25.1, x31.1, x25.1, x31.1⟩ : (Tp5 Str Int Int Int Int))) := r52
          exact P.ok _ _ _ st m_well_here r52
        · replace P := P.iteF c1
          refine h_next ?_
          refine h_nx ?_
          refine h_ret ?_
          refine h_tup ?_
          refine h_cons ?_
          refine h_c ?_
          refine h_cons ?_
          refine h_var rfl ?_
          refine h_cons ?_
          refine h_var rfl ?_
          refine h_cons ?_
          refine h_call ?_
          refine h_cons ?_
          refine h_var rfl ?_
          refine h_cons ?_
          refine h_c ?_
          refine h_cons ?_
          refine h_c ?_
          refine h_nil ?_
          refine ⟨B32, p_well_here, x31.2, 1, 200, w, rfl, m_well_here, (P.bind).mono (fun x53 P => ?_) (fun _ z => z)⟩
          refine fun v57 B54 H55 s56 m_well_here r58 => ?_
          replace st := st.go s56 (go1 (.inl (by simp)))
          replace w := s56.ok
          cases r58
          refine h_cons ?_
          refine h_call ?_
          refine h_cons ?_
          refine h_var rfl ?_
          refine h_cons ?_
          refine h_c ?_
          refine h_cons ?_
          refine h_c ?_
          refine h_nil ?_
          refine ⟨B54, p_well_here, x53.2, 0, 15, w, rfl, m_well_here, (P.bind).mono (fun x59 P => ?_) (fun _ z => z)⟩
          refine fun v63 B60 H61 s62 m_well_here r64 => ?_
          replace st := st.go s62 (go1 (.inl (by simp)))
          replace w := s62.ok
          cases r64
          refine h_nil ?_
          refine h_newT w (K := K) (.cons (Rep.str _) (.cons (Rep.int _) (.cons (Rep.int _) (.cons (Rep.int _) (.cons (Rep.int _) .nil))))) (fun p65 B66 H67 s68 r69 => ?_) (by show 5 ≤ sizeLine; decide)
          replace m_well_here := m_well_here.step s68 nm0
          replace st := st.go s68 go0
          replace w := s68.ok
          replace r69 : Rep K B66 (.ref p65) (enc (⟨("mixed" : Str), x25.1, x31.1, x53.1, x59.1⟩ : (Tp5 Str Int Int Int Int))) := r69
          exact P.ok _ _ _ st m_well_here r69
theorem ok__law_needs {f : Addr} {fd : FuncData}  (F : Fun K "_law_needs" "_law_needs" s__law_needs f fd)  : FnOk Pr wo K mg base CX0 1 f fd ["_law_row"] (sp__law_needs K) := by
  refine F.ok sc__law_needs (fun vs H Q E h => ?_) (fun cdv A outer s H0 vs Q E hr h => ?_)
  · obtain ⟨_, _, _, _, rfl, _⟩ := h; rfl
  · obtain ⟨B0, v_row, a_row, w, rfl, r_row, P⟩ := h
    have w0 := w
    have hu := hu_of hr
    have hu64 := hu64_of hr
    have hu65 := hu65_of hr
    refine ⟨_, (pss_cons (ps_if (pt_cmpR (r := rEqD K) (op_eqD hu64) (pe_ix (r := rIxT K) ix_tup (pv 0) pe_int (fun _ _ => rfl)) pe_str (nomark _)) (pss_one (ps_ret (pe_lst pa_nil))) pss_nil)
      (pss_cons (ps_if (pt_cmpR (r := rEqD K) (op_eqD hu64) (pe_ix (r := rIxT K) ix_tup (pv 0) pe_int (fun _ _ => rfl)) pe_str (nomark _)) (pss_one (ps_ret (pe_lst (pa_cons (pe_tup (pa_cons (pe_ix (r := rIxT K) ix_tup (pv 0) pe_int (fun _ _ => rfl)) (pa_cons (pe_ix (r := rIxT K) ix_tup (pv 0) pe_int (fun _ _ => rfl)) pa_nil))) pa_nil)))) pss_nil)
      (pss_one (ps_ret (pe_lst (pa_cons (pe_tup (pa_cons (pe_ix (r := rIxT K) ix_tup (pv 0) pe_int (fun _ _ => rfl)) (pa_cons (pe_ix (r := rIxT K) ix_tup (pv 0) pe_int (fun _ _ => rfl)) pa_nil))) (pa_cons (pe_tup (pa_cons (pe_ix (r := rIxT K) ix_tup (pv 0) pe_int (fun _ _ => rfl)) (pa_cons (pe_ix (r := rIxT K) ix_tup (pv 0) pe_int (fun _ _ => rfl)) pa_nil))) pa_nil))))))), ?_⟩
    unfold l_needs at P
    have st := Stp.refl (W := []) w
    refine h_seq <| h_if ?_
    refine h_test ?_
    refine h_op ?_
    refine h_op ?_
    refine h_var rfl ?_
    refine h_c ?_
    obtain ⟨l1, hl2, P⟩ := P.asT
    have rc3 := (r_row.mono st.ex)
    rw [hl2] at rc3
    obtain ⟨p4, xs5, rfl, hs6, hr7⟩ := Rep.st w rc3
    obtain ⟨x8, hx9, P⟩ := P.ix
    obtain ⟨u10, hu, r11⟩ := RepL.atE hr7 hx9
    refine h_ixT hs6 hu ?_
    refine h_c ?_
    obtain ⟨gd, P⟩ := P.guard
    refine h_eqD (d := x8) (e := (enc ("plain" : Str))) w r11 (Rep.str _) gd ?_
    refine h_bl ?_
    refine h_ite (fun c1 => ?_) (fun c1 => ?_)
    · replace P := P.iteT c1
      refine h_ret ?_
      refine h_lst ?_
      refine h_nil ?_
      refine h_newL w (ds := (([] : List (Tp2 Int Int))).map enc) (K := K) .nil (fun p12 B13 H14 s15 r16 => ?_) (by show 0 ≤ sizeLine; decide)
      replace st := st.go s15 go0
      replace w := s15.ok
      replace r16 : Rep K B13 (.ref p12) (enc ([] : List (Tp2 Int Int))) := r16
      exact P.ok _ _ _ st r16
    · replace P := P.iteF c1
      refine h_next ?_
      refine h_nx ?_
      refine h_seq <| h_if ?_
      refine h_test ?_
      refine h_op ?_
      refine h_op ?_
      refine h_var rfl ?_
      refine h_c ?_
      obtain ⟨l17, hl18, P⟩ := P.asT
      have rc19 := (r_row.mono st.ex)
      rw [hl18] at rc19
      obtain ⟨p20, xs21, hv, hs22, hr23⟩ := Rep.st w rc19
      cases hv
      obtain ⟨x24, hx25, P⟩ := P.ix
      obtain ⟨u26, hu, r27⟩ := RepL.atE hr23 hx25
      refine h_ixT hs22 hu ?_
      refine h_c ?_
      obtain ⟨gd, P⟩ := P.guard
      refine h_eqD (d := x24) (e := (enc ("moved" : Str))) w r27 (Rep.str _) gd ?_
      refine h_bl ?_
      refine h_ite (fun c1 => ?_) (fun c1 => ?_)
      · replace P := P.iteT c1
        refine h_ret ?_
        refine h_lst ?_
        refine h_cons ?_
        refine h_tup ?_
        refine h_cons ?_
        refine h_op ?_
        refine h_var rfl ?_
        refine h_c ?_
        obtain ⟨l28, hl29, P⟩ := P.asT
        have rc30 := (r_row.mono st.ex)
        rw [hl29] at rc30
        obtain ⟨p31, xs32, hv, hs33, hr34⟩ := Rep.st w rc30
        cases hv
        obtain ⟨x35, hx36, P⟩ := P.ix
        obtain ⟨u37, hu, r38⟩ := RepL.atE hr34 hx36
        refine h_ixT hs33 hu ?_
        refine h_cons ?_
        refine h_op ?_
        refine h_var rfl ?_
        refine h_c ?_
        obtain ⟨l39, hl40, P⟩ := P.asT
        have rc41 := (r_row.mono st.ex)
        rw [hl40] at rc41
        obtain ⟨p42, xs43, hv, hs44, hr45⟩ := Rep.st w rc41
        cases hv
        obtain ⟨x46, hx47, P⟩ := P.ix
        obtain ⟨u48, hu, r49⟩ := RepL.atE hr45 hx47
        refine h_ixT hs44 hu ?_
        refine h_nil ?_
        obtain ⟨i50, hi51, P⟩ := P.asI
        have rc52 := r38
        rw [hi51] at rc52
        cases rc52
        obtain ⟨i53, hi54, P⟩ := P.asI
        have rc55 := r49
        rw [hi54] at rc55
        cases rc55
        refine h_newT w (K := K) (.cons (Rep.int _) (.cons (Rep.int _) .nil)) (fun p56 B57 H58 s59 r60 => ?_) (by show 2 ≤ sizeLine; decide)
        replace st := st.go s59 go0
        replace w := s59.ok
        replace r60 : Rep K B57 (.ref p56) (enc (⟨i50, i53⟩ : (Tp2 Int Int))) := r60
        refine h_nil ?_
        refine h_newL w (ds := (([(⟨i50, i53⟩ : (Tp2 Int Int))] : List (Tp2 Int Int))).map enc) (K := K) (.cons r60 .nil) (fun p61 B62 H63 s64 r65 => ?_) (by show 1 ≤ sizeLine; decide)
        replace st := st.go s64 go0
        replace w := s64.ok
        replace r65 : Rep K B62 (.ref p61) (enc ([(⟨i50, i53⟩ : (Tp2 Int Int))] : List (Tp2 Int Int))) := r65
        exact P.ok _ _ _ st r65
      · replace P := P.iteF c1
        refine h_next ?_
        refine h_nx ?_
        refine h_ret ?_
        refine h_lst ?_
        refine h_cons ?_
        refine h_tup ?_
        refine h_cons ?_
        refine h_op ?_
        refine h_var rfl ?_
        refine h_c ?_
        obtain ⟨l66, hl67, P⟩ := P.asT
        have rc68 := (r_row.mono st.ex)
        rw [hl67] at rc68
        obtain ⟨p69, xs70, hv, hs71, hr72⟩ := Rep.st w rc68
        cases hv
        obtain ⟨x73, hx74, P⟩ := P.ix
        obtain ⟨u75, hu, r76⟩ := RepL.atE hr72 hx74
        refine h_ixT hs71 hu ?_
        refine h_cons ?_
        refine h_op ?_
        refine h_var rfl ?_
        refine h_c ?_
        obtain ⟨l77, hl78, P⟩ := P.asT
        have rc79 := (r_row.mono st.ex)
        rw [hl78] at rc79
        obtain ⟨p80, xs81, hv, hs82, hr83⟩ := Rep.st w rc79
        cases hv
        obtain ⟨x84, hx85, P⟩ := P.ix
        obtain ⟨u86, hu, r87⟩ := RepL.atE hr83 hx85
        refine h_ixT hs82 hu ?_
        refine h_nil ?_
        obtain ⟨i88, hi89, P⟩ := P.asI
        have rc90 := r76
        rw [hi89] at rc90
        cases rc90
        obtain ⟨i91, hi92, P⟩ := P.asI
        have rc93 := r87
        rw [hi92] at rc93
        cases rc93
        refine h_newT w (K := K) (.cons (Rep.int _) (.cons (Rep.int _) .nil)) (fun p94 B95 H96 s97 r98 => ?_) (by show 2 ≤ sizeLine; decide)
        replace st := st.go s97 go0
        replace w := s97.ok
        replace r98 : Rep K B95 (.ref p94) (enc (⟨i88, i91⟩ : (Tp2 Int Int))) := r98
        refine h_cons ?_
        refine h_tup ?_
        refine h_cons ?_
        refine h_op ?_
        refine h_var rfl ?_
        refine h_c ?_
        obtain ⟨l99, hl100, P⟩ := P.asT
        have rc101 := (r_row.mono st.ex)
        rw [hl100] at rc101
        obtain ⟨p102, xs103, hv, hs104, hr105⟩ := Rep.st w rc101
        cases hv
        obtain ⟨x106, hx107, P⟩ := P.ix
        obtain ⟨u108, hu, r109⟩ := RepL.atE hr105 hx107
        refine h_ixT hs104 hu ?_
        refine h_cons ?_
        refine h_op ?_
        refine h_var rfl ?_
        refine h_c ?_
        obtain ⟨l110, hl111, P⟩ := P.asT
        have rc112 := (r_row.mono st.ex)
        rw [hl111] at rc112
        obtain ⟨p113, xs114, hv, hs115, hr116⟩ := Rep.st w rc112
        cases hv
        obtain ⟨x117, hx118, P⟩ := P.ix
        obtain ⟨u119, hu, r120⟩ := RepL.atE hr116 hx118
        refine h_ixT hs115 hu ?_
        refine h_nil ?_
        obtain ⟨i121, hi122, P⟩ := P.asI
        have rc123 := r109
        rw [hi122] at rc123
        cases rc123
        obtain ⟨i124, hi125, P⟩ := P.asI
        have rc126 := r120
        rw [hi125] at rc126
        cases rc126
        refine h_newT w (K := K) (.cons (Rep.int _) (.cons (Rep.int _) .nil)) (fun p127 B128 H129 s130 r131 => ?_) (by show 2 ≤ sizeLine; decide)
        replace r98 := r98.mono s130.ex
        replace st := st.go s130 go0
        replace w := s130.ok
        replace r131 : Rep K B128 (.ref p127) (enc (⟨i121, i124⟩ : (Tp2 Int Int))) := r131
        refine h_nil ?_
        refine h_newL w (ds := (([(⟨i88, i91⟩ : (Tp2 Int Int)), (⟨i121, i124⟩ : (Tp2 Int Int))] : List (Tp2 Int Int))).map enc) (K := K) (.cons r98 (.cons r131 .nil)) (fun p132 B133 H134 s135 r136 => ?_) (by show 2 ≤ sizeLine; decide)
        replace st := st.go s135 go0
        replace w := s135.ok
        replace r136 : Rep K B133 (.ref p132) (enc ([(⟨i88, i91⟩ : (Tp2 Int Int)), (⟨i121, i124⟩ : (Tp2 Int Int))] : List (Tp2 Int Int))) := r136
        exact P.ok _ _ _ st r136
theorem ok__law_worth {f : Addr} {fd : FuncData}  (F : Fun K "_law_worth" "_law_worth" s__law_worth f fd)  : FnOk Pr wo K mg base CX0 1 f fd ["_law_row", "_law_found"] (sp__law_worth K) := by
  refine F.ok sc__law_worth (fun vs H Q E h => ?_) (fun cdv A outer s H0 vs Q E hr h => ?_)
  · obtain ⟨_, _, _, _, _, _, rfl, _⟩ := h; rfl
  · obtain ⟨B0, v_row, a_row, v_found, a_found, w, rfl, r_row, r_found, P⟩ := h
    have w0 := w
    have hu := hu_of hr
    have hu64 := hu64_of hr
    have hu65 := hu65_of hr
    refine ⟨_, (pss_cons (ps_if (pt_cmpR (r := rEqD K) (op_eqD hu64) (pe_ix (r := rIxT K) ix_tup (pv 0) pe_int (fun _ _ => rfl)) pe_str (nomark _)) (pss_one (ps_ret (pe_ix (r := rIxT K) ix_tup (pv 0) pe_int (fun _ _ => rfl)))) pss_nil)
      (pss_cons (ps_if (pt_cmpR (r := rEqD K) (op_eqD hu64) (pe_ix (r := rIxT K) ix_tup (pv 0) pe_int (fun _ _ => rfl)) pe_str (nomark _)) (pss_one (ps_ret (pe_op op_mod (pe_op op_add (pe_ix (r := rIxL K) ix_list (pv 1) pe_int (fun _ _ => rfl)) (pe_ix (r := rIxT K) ix_tup (pv 0) pe_int (fun _ _ => rfl))) pe_int))) pss_nil)
      (pss_one (ps_ret (pe_op op_fdiv (pe_op op_add (pe_ix (r := rIxL K) ix_list (pv 1) pe_int (fun _ _ => rfl)) (pe_ix (r := rIxL K) ix_list (pv 1) pe_int (fun _ _ => rfl))) pe_int))))), ?_⟩
    unfold l_worth at P
    have st := Stp.refl (W := []) w
    refine h_seq <| h_if ?_
    refine h_test ?_
    refine h_op ?_
    refine h_op ?_
    refine h_var rfl ?_
    refine h_c ?_
    obtain ⟨l1, hl2, P⟩ := P.asT
    have rc3 := (r_row.mono st.ex)
    rw [hl2] at rc3
    obtain ⟨p4, xs5, rfl, hs6, hr7⟩ := Rep.st w rc3
    obtain ⟨x8, hx9, P⟩ := P.ix
    obtain ⟨u10, hu, r11⟩ := RepL.atE hr7 hx9
    refine h_ixT hs6 hu ?_
    refine h_c ?_
    obtain ⟨gd, P⟩ := P.guard
    refine h_eqD (d := x8) (e := (enc ("plain" : Str))) w r11 (Rep.str _) gd ?_
    refine h_bl ?_
    refine h_ite (fun c1 => ?_) (fun c1 => ?_)
    · replace P := P.iteT c1
      refine h_ret ?_
      refine h_op ?_
      refine h_var rfl ?_
      refine h_c ?_
      obtain ⟨l12, hl13, P⟩ := P.asT
      have rc14 := (r_row.mono st.ex)
      rw [hl13] at rc14
      obtain ⟨p15, xs16, hv, hs17, hr18⟩ := Rep.st w rc14
      cases hv
      obtain ⟨x19, hx20, P⟩ := P.ix
      obtain ⟨u21, hu, r22⟩ := RepL.atE hr18 hx20
      refine h_ixT hs17 hu ?_
      obtain ⟨i23, hi24, P⟩ := P.asI
      have rc25 := r22
      rw [hi24] at rc25
      cases rc25
      exact P.ok _ _ _ st (Rep.int _)
    · replace P := P.iteF c1
      refine h_next ?_
      refine h_nx ?_
      refine h_seq <| h_if ?_
      refine h_test ?_
      refine h_op ?_
      refine h_op ?_
      refine h_var rfl ?_
      refine h_c ?_
      obtain ⟨l26, hl27, P⟩ := P.asT
      have rc28 := (r_row.mono st.ex)
      rw [hl27] at rc28
      obtain ⟨p29, xs30, hv, hs31, hr32⟩ := Rep.st w rc28
      cases hv
      obtain ⟨x33, hx34, P⟩ := P.ix
      obtain ⟨u35, hu, r36⟩ := RepL.atE hr32 hx34
      refine h_ixT hs31 hu ?_
      refine h_c ?_
      obtain ⟨gd, P⟩ := P.guard
      refine h_eqD (d := x33) (e := (enc ("moved" : Str))) w r36 (Rep.str _) gd ?_
      refine h_bl ?_
      refine h_ite (fun c1 => ?_) (fun c1 => ?_)
      · replace P := P.iteT c1
        refine h_ret ?_
        refine h_op ?_
        refine h_op ?_
        refine h_op ?_
        refine h_var rfl ?_
        refine h_c ?_
        obtain ⟨p37, xs38, rfl, hs39, hr40⟩ := Rep.sq w (r_found.mono st.ex)
        obtain ⟨x41, hx42, P⟩ := P.ix
        obtain ⟨u43, hu, r44⟩ := RepL.atE hr40 hx42
        refine h_ixL hs39 hu ?_
        cases r44
        refine h_op ?_
        refine h_var rfl ?_
        refine h_c ?_
        obtain ⟨l45, hl46, P⟩ := P.asT
        have rc47 := (r_row.mono st.ex)
        rw [hl46] at rc47
        obtain ⟨p48, xs49, hv, hs50, hr51⟩ := Rep.st w rc47
        cases hv
        obtain ⟨x52, hx53, P⟩ := P.ix
        obtain ⟨u54, hu, r55⟩ := RepL.atE hr51 hx53
        refine h_ixT hs50 hu ?_
        obtain ⟨i56, hi57, P⟩ := P.asI
        have rc58 := r55
        rw [hi57] at rc58
        cases rc58
        refine h_I0 ?_
        refine h_c ?_
        refine h_I (by decide +kernel) ?_
        exact P.ok _ _ _ st (Rep.int _)
      · replace P := P.iteF c1
        refine h_next ?_
        refine h_nx ?_
        refine h_ret ?_
        refine h_op ?_
        refine h_op ?_
        refine h_op ?_
        refine h_var rfl ?_
        refine h_c ?_
        obtain ⟨p59, xs60, rfl, hs61, hr62⟩ := Rep.sq w (r_found.mono st.ex)
        obtain ⟨x63, hx64, P⟩ := P.ix
        obtain ⟨u65, hu, r66⟩ := RepL.atE hr62 hx64
        refine h_ixL hs61 hu ?_
        cases r66
        refine h_op ?_
        refine h_var rfl ?_
        refine h_c ?_
        obtain ⟨p67, xs68, hv, hs69, hr70⟩ := Rep.sq w (r_found.mono st.ex)
        cases hv
        obtain ⟨x71, hx72, P⟩ := P.ix
        obtain ⟨u73, hu, r74⟩ := RepL.atE hr70 hx72
        refine h_ixL hs69 hu ?_
        cases r74
        refine h_I0 ?_
        refine h_c ?_
        refine h_I ⟨by decide +kernel, by decide +kernel⟩ ?_
        exact P.ok _ _ _ st (Rep.int _)
theorem ok__law_word {f : Addr} {fd : FuncData}  (F : Fun K "_law_word" "_law_word" s__law_word f fd) (bI_str : mg "str" = none) : FnOk Pr wo K mg base CX0 1 f fd ["_law_row"] (sp__law_word K) := by
  refine F.ok sc__law_word (fun vs H Q E h => ?_) (fun cdv A outer s H0 vs Q E hr h => ?_)
  · obtain ⟨_, _, _, _, rfl, _⟩ := h; rfl
  · obtain ⟨B0, v_row, a_row, w, rfl, r_row, P⟩ := h
    have w0 := w
    have hu := hu_of hr
    have hu64 := hu64_of hr
    have hu65 := hu65_of hr
    refine ⟨_, (pss_cons (ps_if (pt_cmpR (r := rEqD K) (op_eqD hu64) (pe_ix (r := rIxT K) ix_tup (pv 0) pe_int (fun _ _ => rfl)) pe_str (nomark _)) (pss_one (ps_ret (pe_callTy cr_str (by rfl) bI_str Y.boot_str (pa_cons (pe_ix (r := rIxT K) ix_tup (pv 0) pe_int (fun _ _ => rfl)) pa_nil)))) pss_nil)
      (pss_cons (ps_if (pt_cmpR (r := rEqD K) (op_eqD hu64) (pe_ix (r := rIxT K) ix_tup (pv 0) pe_int (fun _ _ => rfl)) pe_str (nomark _)) (pss_one (ps_ret (pe_op (r := rAddS) op_addS (pe_op (r := rAddS) op_addS (pe_op (r := rAddS) op_addS (pe_op (r := rAddS) op_addS (pe_callTy cr_str (by rfl) bI_str Y.boot_str (pa_cons (pe_ix (r := rIxT K) ix_tup (pv 0) pe_int (fun _ _ => rfl)) pa_nil)) pe_str) (pe_callTy cr_str (by rfl) bI_str Y.boot_str (pa_cons (pe_ix (r := rIxT K) ix_tup (pv 0) pe_int (fun _ _ => rfl)) pa_nil))) pe_str) (pe_callTy cr_str (by rfl) bI_str Y.boot_str (pa_cons (pe_ix (r := rIxT K) ix_tup (pv 0) pe_int (fun _ _ => rfl)) pa_nil))))) pss_nil)
      (pss_one (ps_ret (pe_op (r := rAddS) op_addS (pe_op (r := rAddS) op_addS (pe_op (r := rAddS) op_addS (pe_op (r := rAddS) op_addS (pe_op (r := rAddS) op_addS (pe_op (r := rAddS) op_addS (pe_callTy cr_str (by rfl) bI_str Y.boot_str (pa_cons (pe_ix (r := rIxT K) ix_tup (pv 0) pe_int (fun _ _ => rfl)) pa_nil)) pe_str) (pe_callTy cr_str (by rfl) bI_str Y.boot_str (pa_cons (pe_ix (r := rIxT K) ix_tup (pv 0) pe_int (fun _ _ => rfl)) pa_nil))) pe_str) (pe_callTy cr_str (by rfl) bI_str Y.boot_str (pa_cons (pe_ix (r := rIxT K) ix_tup (pv 0) pe_int (fun _ _ => rfl)) pa_nil))) pe_str) (pe_callTy cr_str (by rfl) bI_str Y.boot_str (pa_cons (pe_ix (r := rIxT K) ix_tup (pv 0) pe_int (fun _ _ => rfl)) pa_nil))))))), ?_⟩
    unfold l_word at P
    have st := Stp.refl (W := []) w
    refine h_seq <| h_if ?_
    refine h_test ?_
    refine h_op ?_
    refine h_op ?_
    refine h_var rfl ?_
    refine h_c ?_
    obtain ⟨l1, hl2, P⟩ := P.asT
    have rc3 := (r_row.mono st.ex)
    rw [hl2] at rc3
    obtain ⟨p4, xs5, rfl, hs6, hr7⟩ := Rep.st w rc3
    obtain ⟨x8, hx9, P⟩ := P.ix
    obtain ⟨u10, hu, r11⟩ := RepL.atE hr7 hx9
    refine h_ixT hs6 hu ?_
    refine h_c ?_
    obtain ⟨gd, P⟩ := P.guard
    refine h_eqD (d := x8) (e := (enc ("plain" : Str))) w r11 (Rep.str _) gd ?_
    refine h_bl ?_
    refine h_ite (fun c1 => ?_) (fun c1 => ?_)
    · replace P := P.iteT c1
      refine h_ret ?_
      refine h_cb ?_
      refine h_cons ?_
      refine h_op ?_
      refine h_var rfl ?_
      refine h_c ?_
      obtain ⟨l12, hl13, P⟩ := P.asT
      have rc14 := (r_row.mono st.ex)
      rw [hl13] at rc14
      obtain ⟨p15, xs16, hv, hs17, hr18⟩ := Rep.st w rc14
      cases hv
      obtain ⟨x19, hx20, P⟩ := P.ix
      obtain ⟨u21, hu, r22⟩ := RepL.atE hr18 hx20
      refine h_ixT hs17 hu ?_
      refine h_nil ?_
      obtain ⟨i23, hi24, P⟩ := P.asI
      have rc25 := r22
      rw [hi24] at rc25
      cases rc25
      obtain ⟨gd, P⟩ := P.guard
      refine h_str gd ?_
      exact P.ok _ _ _ st (Rep.str _)
    · replace P := P.iteF c1
      refine h_next ?_
      refine h_nx ?_
      refine h_seq <| h_if ?_
      refine h_test ?_
      refine h_op ?_
      refine h_op ?_
      refine h_var rfl ?_
      refine h_c ?_
      obtain ⟨l26, hl27, P⟩ := P.asT
      have rc28 := (r_row.mono st.ex)
      rw [hl27] at rc28
      obtain ⟨p29, xs30, hv, hs31, hr32⟩ := Rep.st w rc28
      cases hv
      obtain ⟨x33, hx34, P⟩ := P.ix
      obtain ⟨u35, hu, r36⟩ := RepL.atE hr32 hx34
      refine h_ixT hs31 hu ?_
      refine h_c ?_
      obtain ⟨gd, P⟩ := P.guard
      refine h_eqD (d := x33) (e := (enc ("moved" : Str))) w r36 (Rep.str _) gd ?_
      refine h_bl ?_
      refine h_ite (fun c1 => ?_) (fun c1 => ?_)
      · replace P := P.iteT c1
        refine h_ret ?_
        refine h_op ?_
        refine h_op ?_
        refine h_op ?_
        refine h_op ?_
        refine h_cb ?_
        refine h_cons ?_
        refine h_op ?_
        refine h_var rfl ?_
        refine h_c ?_
        obtain ⟨l37, hl38, P⟩ := P.asT
        have rc39 := (r_row.mono st.ex)
        rw [hl38] at rc39
        obtain ⟨p40, xs41, hv, hs42, hr43⟩ := Rep.st w rc39
        cases hv
        obtain ⟨x44, hx45, P⟩ := P.ix
        obtain ⟨u46, hu, r47⟩ := RepL.atE hr43 hx45
        refine h_ixT hs42 hu ?_
        refine h_nil ?_
        obtain ⟨i48, hi49, P⟩ := P.asI
        have rc50 := r47
        rw [hi49] at rc50
        cases rc50
        obtain ⟨gd, P⟩ := P.guard
        refine h_str gd ?_
        refine h_c ?_
        obtain ⟨gd, P⟩ := P.guard
        refine h_addS gd ?_
        refine h_cb ?_
        refine h_cons ?_
        refine h_op ?_
        refine h_var rfl ?_
        refine h_c ?_
        obtain ⟨l51, hl52, P⟩ := P.asT
        have rc53 := (r_row.mono st.ex)
        rw [hl52] at rc53
        obtain ⟨p54, xs55, hv, hs56, hr57⟩ := Rep.st w rc53
        cases hv
        obtain ⟨x58, hx59, P⟩ := P.ix
        obtain ⟨u60, hu, r61⟩ := RepL.atE hr57 hx59
        refine h_ixT hs56 hu ?_
        refine h_nil ?_
        obtain ⟨i62, hi63, P⟩ := P.asI
        have rc64 := r61
        rw [hi63] at rc64
        cases rc64
        obtain ⟨gd, P⟩ := P.guard
        refine h_str gd ?_
        obtain ⟨gd, P⟩ := P.guard
        refine h_addS gd ?_
        refine h_c ?_
        obtain ⟨gd, P⟩ := P.guard
        refine h_addS gd ?_
        refine h_cb ?_
        refine h_cons ?_
        refine h_op ?_
        refine h_var rfl ?_
        refine h_c ?_
        obtain ⟨l65, hl66, P⟩ := P.asT
        have rc67 := (r_row.mono st.ex)
        rw [hl66] at rc67
        obtain ⟨p68, xs69, hv, hs70, hr71⟩ := Rep.st w rc67
        cases hv
        obtain ⟨x72, hx73, P⟩ := P.ix
        obtain ⟨u74, hu, r75⟩ := RepL.atE hr71 hx73
        refine h_ixT hs70 hu ?_
        refine h_nil ?_
        obtain ⟨i76, hi77, P⟩ := P.asI
        have rc78 := r75
        rw [hi77] at rc78
        cases rc78
        obtain ⟨gd, P⟩ := P.guard
        refine h_str gd ?_
        obtain ⟨gd, P⟩ := P.guard
        refine h_addS gd ?_
        exact P.ok _ _ _ st (Rep.str _)
      · replace P := P.iteF c1
        refine h_next ?_
        refine h_nx ?_
        refine h_ret ?_
        refine h_op ?_
        refine h_op ?_
        refine h_op ?_
        refine h_op ?_
        refine h_op ?_
        refine h_op ?_
        refine h_cb ?_
        refine h_cons ?_
        refine h_op ?_
        refine h_var rfl ?_
        refine h_c ?_
        obtain ⟨l79, hl80, P⟩ := P.asT
        have rc81 := (r_row.mono st.ex)
        rw [hl80] at rc81
        obtain ⟨p82, xs83, hv, hs84, hr85⟩ := Rep.st w rc81
        cases hv
        obtain ⟨x86, hx87, P⟩ := P.ix
        obtain ⟨u88, hu, r89⟩ := RepL.atE hr85 hx87
        refine h_ixT hs84 hu ?_
        refine h_nil ?_
        obtain ⟨i90, hi91, P⟩ := P.asI
        have rc92 := r89
        rw [hi91] at rc92
        cases rc92
        obtain ⟨gd, P⟩ := P.guard
        refine h_str gd ?_
        refine h_c ?_
        obtain ⟨gd, P⟩ := P.guard
        refine h_addS gd ?_
        refine h_cb ?_
        refine h_cons ?_
        refine h_op ?_
        refine h_var rfl ?_
        refine h_c ?_
        obtain ⟨l93, hl94, P⟩ := P.asT
        have rc95 := (r_row.mono st.ex)
        rw [hl94] at rc95
        obtain ⟨p96, xs97, hv, hs98, hr99⟩ := Rep.st w rc95
        cases hv
        obtain ⟨x100, hx101, P⟩ := P.ix
        obtain ⟨u102, hu, r103⟩ := RepL.atE hr99 hx101
        refine h_ixT hs98 hu ?_
        refine h_nil ?_
        obtain ⟨i104, hi105, P⟩ := P.asI
        have rc106 := r103
        rw [hi105] at rc106
        cases rc106
        obtain ⟨gd, P⟩ := P.guard
        refine h_str gd ?_
        obtain ⟨gd, P⟩ := P.guard
        refine h_addS gd ?_
        refine h_c ?_
        obtain ⟨gd, P⟩ := P.guard
        refine h_addS gd ?_
        refine h_cb ?_
        refine h_cons ?_
        refine h_op ?_
        refine h_var rfl ?_
        refine h_c ?_
        obtain ⟨l107, hl108, P⟩ := P.asT
        have rc109 := (r_row.mono st.ex)
        rw [hl108] at rc109
        obtain ⟨p110, xs111, hv, hs112, hr113⟩ := Rep.st w rc109
        cases hv
        obtain ⟨x114, hx115, P⟩ := P.ix
        obtain ⟨u116, hu, r117⟩ := RepL.atE hr113 hx115
        refine h_ixT hs112 hu ?_
        refine h_nil ?_
        obtain ⟨i118, hi119, P⟩ := P.asI
        have rc120 := r117
        rw [hi119] at rc120
        cases rc120
        obtain ⟨gd, P⟩ := P.guard
        refine h_str gd ?_
        obtain ⟨gd, P⟩ := P.guard
        refine h_addS gd ?_
        refine h_c ?_
        obtain ⟨gd, P⟩ := P.guard
        refine h_addS gd ?_
        refine h_cb ?_
        refine h_cons ?_
        refine h_op ?_
        refine h_var rfl ?_
        refine h_c ?_
        obtain ⟨l121, hl122, P⟩ := P.asT
        have rc123 := (r_row.mono st.ex)
        rw [hl122] at rc123
        obtain ⟨p124, xs125, hv, hs126, hr127⟩ := Rep.st w rc123
        cases hv
        obtain ⟨x128, hx129, P⟩ := P.ix
        obtain ⟨u130, hu, r131⟩ := RepL.atE hr127 hx129
        refine h_ixT hs126 hu ?_
        refine h_nil ?_
        obtain ⟨i132, hi133, P⟩ := P.asI
        have rc134 := r131
        rw [hi133] at rc134
        cases rc134
        obtain ⟨gd, P⟩ := P.guard
        refine h_str gd ?_
        obtain ⟨gd, P⟩ := P.guard
        refine h_addS gd ?_
        exact P.ok _ _ _ st (Rep.str _)
theorem ok__law_by_name {f : Addr} {fd : FuncData}  (F : Fun K "_law_by_name" "_law_by_name" s__law_by_name f fd) {C_Plain : Addr} (T_Plain : KI K mg "Plain" C_Plain) {C_Moved : Addr} (T_Moved : KI K mg "Moved" C_Moved) {C_Mixed : Addr} (T_Mixed : KI K mg "Mixed" C_Mixed) {fi_Plain : Addr} {di_Plain : FuncData} (M_Plain : Mk K C_Plain fi_Plain) (lo_Plain : LaysOk K C_Plain ["worth"]) (bi_Plain : L2.Binds K di_Plain ["self", "value"] []) (Gi_Plain : FnOk Pr wo K mg base CX0 1 fi_Plain di_Plain ["self", "value"] (spInit K ["worth"])) {fi_Moved : Addr} {di_Moved : FuncData} (M_Moved : Mk K C_Moved fi_Moved) (lo_Moved : LaysOk K C_Moved ["back", "cell", "add"]) (bi_Moved : L2.Binds K di_Moved ["self", "back", "cell", "add"] []) (Gi_Moved : FnOk Pr wo K mg base CX0 1 fi_Moved di_Moved ["self", "back", "cell", "add"] (spInit K ["back", "cell", "add"])) {fi_Mixed : Addr} {di_Mixed : FuncData} (M_Mixed : Mk K C_Mixed fi_Mixed) (lo_Mixed : LaysOk K C_Mixed ["back", "cell", "other_back", "other_cell"]) (bi_Mixed : L2.Binds K di_Mixed ["self", "back", "cell", "other_back", "other_cell"] []) (Gi_Mixed : FnOk Pr wo K mg base CX0 1 fi_Mixed di_Mixed ["self", "back", "cell", "other_back", "other_cell"] (spInit K ["back", "cell", "other_back", "other_cell"])) (kb_Mixed____init___2_other_cell_other_back : KBinds K di_Mixed ["self", "back", "cell", "other_back", "other_cell"] ["other_cell", "other_back"] (fun us ws => match us, ws with | [u0, u1, u2], [w0, w1] => [u0, u1, u2, w1, w0] | _, _ => []) (fun us ws => match us, ws with | [u0, u1, u2], [w0, w1] => [u0, u1, u2, w1, w0] | _, _ => [])) (kb_Plain____init___0_value : KBinds K di_Plain ["self", "value"] ["value"] (fun us ws => match us, ws with | [u0], [w0] => [u0, w0] | _, _ => []) (fun us ws => match us, ws with | [u0], [w0] => [u0, w0] | _, _ => [])) (kb_Moved____init___0_add_back_cell : KBinds K di_Moved ["self", "back", "cell", "add"] ["add", "back", "cell"] (fun us ws => match us, ws with | [u0], [w0, w1, w2] => [u0, w1, w2, w0] | _, _ => []) (fun us ws => match us, ws with | [u0], [w0, w1, w2] => [u0, w1, w2, w0] | _, _ => [])) : FnOk Pr wo K mg base CX0 3 f fd ["_law_row"] (sp__law_by_name K) := by
  refine F.ok sc__law_by_name (fun vs H Q E h => ?_) (fun cdv A outer s H0 vs Q E hr h => ?_)
  · obtain ⟨_, _, _, _, rfl, _⟩ := h; rfl
  · obtain ⟨B0, v_row, a_row, w, rfl, r_row, P⟩ := h
    have w0 := w
    have hu := hu_of hr
    have hu64 := hu64_of hr
    have hu65 := hu65_of hr
    have hr2 : Room 2 _ := hr.mono (by decide)
    refine ⟨_, (pss_cons (ps_if (pt_cmpR (r := rEqD K) (op_eqD hu64) (pe_ix (r := rIxT K) ix_tup (pv 0) pe_int (fun _ _ => rfl)) pe_str (nomark _)) (pss_one (ps_ret (pe_makeB0 M_Plain Gi_Plain hr2 rfl T_Plain.g kb_Plain____init___0_value pass0 (pk_cons (pe_ix (r := rIxT K) ix_tup (pv 0) pe_int (fun _ _ => rfl)) pk_nil)))) pss_nil)
      (pss_cons (ps_if (pt_cmpR (r := rEqD K) (op_eqD hu64) (pe_ix (r := rIxT K) ix_tup (pv 0) pe_int (fun _ _ => rfl)) pe_str (nomark _)) (pss_one (ps_ret (pe_makeB0 M_Moved Gi_Moved hr2 rfl T_Moved.g kb_Moved____init___0_add_back_cell pass0 (pk_cons (pe_ix (r := rIxT K) ix_tup (pv 0) pe_int (fun _ _ => rfl)) (pk_cons (pe_ix (r := rIxT K) ix_tup (pv 0) pe_int (fun _ _ => rfl)) (pk_cons (pe_ix (r := rIxT K) ix_tup (pv 0) pe_int (fun _ _ => rfl)) pk_nil)))))) pss_nil)
      (pss_one (ps_ret (pe_makeB M_Mixed Gi_Mixed hr2 rfl T_Mixed.g kb_Mixed____init___2_other_cell_other_back pass0 (pa_cons (pe_ix (r := rIxT K) ix_tup (pv 0) pe_int (fun _ _ => rfl)) (pa_cons (pe_ix (r := rIxT K) ix_tup (pv 0) pe_int (fun _ _ => rfl)) pa_nil)) (pk_cons (pe_ix (r := rIxT K) ix_tup (pv 0) pe_int (fun _ _ => rfl)) (pk_cons (pe_ix (r := rIxT K) ix_tup (pv 0) pe_int (fun _ _ => rfl)) pk_nil))))))), ?_⟩
    unfold l_by_name at P
    have st := Stp.refl (W := []) w
    refine h_seq <| h_if ?_
    refine h_test ?_
    refine h_op ?_
    refine h_op ?_
    refine h_var rfl ?_
    refine h_c ?_
    obtain ⟨l1, hl2, P⟩ := P.asT
    have rc3 := (r_row.mono st.ex)
    rw [hl2] at rc3
    obtain ⟨p4, xs5, rfl, hs6, hr7⟩ := Rep.st w rc3
    obtain ⟨x8, hx9, P⟩ := P.ix
    obtain ⟨u10, hu, r11⟩ := RepL.atE hr7 hx9
    refine h_ixT hs6 hu ?_
    refine h_c ?_
    obtain ⟨gd, P⟩ := P.guard
    refine h_eqD (d := x8) (e := (enc ("plain" : Str))) w r11 (Rep.str _) gd ?_
    refine h_bl ?_
    refine h_ite (fun c1 => ?_) (fun c1 => ?_)
    · replace P := P.iteT c1
      refine h_ret ?_
      refine h_makeBE ?_
      refine h_nil ?_
      refine h_cons ?_
      refine h_op ?_
      refine h_var rfl ?_
      refine h_c ?_
      obtain ⟨l12, hl13, P⟩ := P.asT
      have rc14 := (r_row.mono st.ex)
      rw [hl13] at rc14
      obtain ⟨p15, xs16, hv, hs17, hr18⟩ := Rep.st w rc14
      cases hv
      obtain ⟨x19, hx20, P⟩ := P.ix
      obtain ⟨u21, hu, r22⟩ := RepL.atE hr18 hx20
      refine h_ixT hs17 hu ?_
      refine h_nil ?_
      obtain ⟨i23, hi24, P⟩ := P.asI
      have rc25 := r22
      rw [hi24] at rc25
      cases rc25
      refine h_make (us := [.int i23]) (ns := ["worth"]) rfl w T_Plain.toKC lo_Plain (ds := [("worth", enc (i23 : Int))]) (.cons (Rep.int _) .nil) (fun p26 B27 H28 s29 r30 => ?_)
      replace r22 := r22.mono s29.ex
      replace st := st.go s29 go0
      replace w := s29.ok
      replace r30 : Rep K B27 (.ref p26) (enc (K_Rule.Plain i23)) := r30
      exact P.ok _ _ _ st r30
    · replace P := P.iteF c1
      refine h_next ?_
      refine h_nx ?_
      refine h_seq <| h_if ?_
      refine h_test ?_
      refine h_op ?_
      refine h_op ?_
      refine h_var rfl ?_
      refine h_c ?_
      obtain ⟨l31, hl32, P⟩ := P.asT
      have rc33 := (r_row.mono st.ex)
      rw [hl32] at rc33
      obtain ⟨p34, xs35, hv, hs36, hr37⟩ := Rep.st w rc33
      cases hv
      obtain ⟨x38, hx39, P⟩ := P.ix
      obtain ⟨u40, hu, r41⟩ := RepL.atE hr37 hx39
      refine h_ixT hs36 hu ?_
      refine h_c ?_
      obtain ⟨gd, P⟩ := P.guard
      refine h_eqD (d := x38) (e := (enc ("moved" : Str))) w r41 (Rep.str _) gd ?_
      refine h_bl ?_
      refine h_ite (fun c1 => ?_) (fun c1 => ?_)
      · replace P := P.iteT c1
        refine h_ret ?_
        refine h_makeBE ?_
        refine h_nil ?_
        refine h_cons ?_
        refine h_op ?_
        refine h_var rfl ?_
        refine h_c ?_
        obtain ⟨l42, hl43, P⟩ := P.asT
        have rc44 := (r_row.mono st.ex)
        rw [hl43] at rc44
        obtain ⟨p45, xs46, hv, hs47, hr48⟩ := Rep.st w rc44
        cases hv
        obtain ⟨x49, hx50, P⟩ := P.ix
        obtain ⟨u51, hu, r52⟩ := RepL.atE hr48 hx50
        refine h_ixT hs47 hu ?_
        refine h_cons ?_
        refine h_op ?_
        refine h_var rfl ?_
        refine h_c ?_
        obtain ⟨l53, hl54, P⟩ := P.asT
        have rc55 := (r_row.mono st.ex)
        rw [hl54] at rc55
        obtain ⟨p56, xs57, hv, hs58, hr59⟩ := Rep.st w rc55
        cases hv
        obtain ⟨x60, hx61, P⟩ := P.ix
        obtain ⟨u62, hu, r63⟩ := RepL.atE hr59 hx61
        refine h_ixT hs58 hu ?_
        refine h_cons ?_
        refine h_op ?_
        refine h_var rfl ?_
        refine h_c ?_
        obtain ⟨l64, hl65, P⟩ := P.asT
        have rc66 := (r_row.mono st.ex)
        rw [hl65] at rc66
        obtain ⟨p67, xs68, hv, hs69, hr70⟩ := Rep.st w rc66
        cases hv
        obtain ⟨x71, hx72, P⟩ := P.ix
        obtain ⟨u73, hu, r74⟩ := RepL.atE hr70 hx72
        refine h_ixT hs69 hu ?_
        refine h_nil ?_
        obtain ⟨i75, hi76, P⟩ := P.asI
        have rc77 := r63
        rw [hi76] at rc77
        cases rc77
        obtain ⟨i78, hi79, P⟩ := P.asI
        have rc80 := r74
        rw [hi79] at rc80
        cases rc80
        obtain ⟨i81, hi82, P⟩ := P.asI
        have rc83 := r52
        rw [hi82] at rc83
        cases rc83
        refine h_make (us := [.int i75, .int i78, .int i81]) (ns := ["back", "cell", "add"]) rfl w T_Moved.toKC lo_Moved (ds := [("back", enc (i75 : Int)), ("cell", enc (i78 : Int)), ("add", enc (i81 : Int))]) (.cons (Rep.int _) (.cons (Rep.int _) (.cons (Rep.int _) .nil))) (fun p84 B85 H86 s87 r88 => ?_)
        replace r63 := r63.mono s87.ex
        replace r74 := r74.mono s87.ex
        replace r52 := r52.mono s87.ex
        replace st := st.go s87 go0
        replace w := s87.ok
        replace r88 : Rep K B85 (.ref p84) (enc (K_Rule.Moved i75 i78 i81)) := r88
        exact P.ok _ _ _ st r88
      · replace P := P.iteF c1
        refine h_next ?_
        refine h_nx ?_
        refine h_ret ?_
        refine h_makeBE ?_
        refine h_cons ?_
        refine h_op ?_
        refine h_var rfl ?_
        refine h_c ?_
        obtain ⟨l89, hl90, P⟩ := P.asT
        have rc91 := (r_row.mono st.ex)
        rw [hl90] at rc91
        obtain ⟨p92, xs93, hv, hs94, hr95⟩ := Rep.st w rc91
        cases hv
        obtain ⟨x96, hx97, P⟩ := P.ix
        obtain ⟨u98, hu, r99⟩ := RepL.atE hr95 hx97
        refine h_ixT hs94 hu ?_
        refine h_cons ?_
        refine h_op ?_
        refine h_var rfl ?_
        refine h_c ?_
        obtain ⟨l100, hl101, P⟩ := P.asT
        have rc102 := (r_row.mono st.ex)
        rw [hl101] at rc102
        obtain ⟨p103, xs104, hv, hs105, hr106⟩ := Rep.st w rc102
        cases hv
        obtain ⟨x107, hx108, P⟩ := P.ix
        obtain ⟨u109, hu, r110⟩ := RepL.atE hr106 hx108
        refine h_ixT hs105 hu ?_
        refine h_nil ?_
        refine h_cons ?_
        refine h_op ?_
        refine h_var rfl ?_
        refine h_c ?_
        obtain ⟨l111, hl112, P⟩ := P.asT
        have rc113 := (r_row.mono st.ex)
        rw [hl112] at rc113
        obtain ⟨p114, xs115, hv, hs116, hr117⟩ := Rep.st w rc113
        cases hv
        obtain ⟨x118, hx119, P⟩ := P.ix
        obtain ⟨u120, hu, r121⟩ := RepL.atE hr117 hx119
        refine h_ixT hs116 hu ?_
        refine h_cons ?_
        refine h_op ?_
        refine h_var rfl ?_
        refine h_c ?_
        obtain ⟨l122, hl123, P⟩ := P.asT
        have rc124 := (r_row.mono st.ex)
        rw [hl123] at rc124
        obtain ⟨p125, xs126, hv, hs127, hr128⟩ := Rep.st w rc124
        cases hv
        obtain ⟨x129, hx130, P⟩ := P.ix
        obtain ⟨u131, hu, r132⟩ := RepL.atE hr128 hx130
        refine h_ixT hs127 hu ?_
        refine h_nil ?_
        obtain ⟨i133, hi134, P⟩ := P.asI
        have rc135 := r99
        rw [hi134] at rc135
        cases rc135
        obtain ⟨i136, hi137, P⟩ := P.asI
        have rc138 := r110
        rw [hi137] at rc138
        cases rc138
        obtain ⟨i139, hi140, P⟩ := P.asI
        have rc141 := r132
        rw [hi140] at rc141
        cases rc141
        obtain ⟨i142, hi143, P⟩ := P.asI
        have rc144 := r121
        rw [hi143] at rc144
        cases rc144
        refine h_make (us := [.int i133, .int i136, .int i139, .int i142]) (ns := ["back", "cell", "other_back", "other_cell"]) rfl w T_Mixed.toKC lo_Mixed (ds := [("back", enc (i133 : Int)), ("cell", enc (i136 : Int)), ("other_back", enc (i139 : Int)), ("other_cell", enc (i142 : Int))]) (.cons (Rep.int _) (.cons (Rep.int _) (.cons (Rep.int _) (.cons (Rep.int _) .nil)))) (fun p145 B146 H147 s148 r149 => ?_)
        replace r99 := r99.mono s148.ex
        replace r110 := r110.mono s148.ex
        replace r132 := r132.mono s148.ex
        replace r121 := r121.mono s148.ex
        replace st := st.go s148 go0
        replace w := s148.ok
        replace r149 : Rep K B146 (.ref p145) (enc (K_Rule.Mixed i133 i136 i139 i142)) := r149
        exact P.ok _ _ _ st r149
theorem ok__law_of_its_class {f : Addr} {fd : FuncData}  (F : Fun K "_law_of_its_class" "_law_of_its_class" s__law_of_its_class f fd) {C_Rule : Addr} (T_Rule : KI K mg "Rule" C_Rule) {C_Mixed : Addr} (T_Mixed : KI K mg "Mixed" C_Mixed) {C_Moved : Addr} (T_Moved : KI K mg "Moved" C_Moved) {C_Plain : Addr} (T_Plain : KI K mg "Plain" C_Plain) (p_Plain_Rule : PySem.W.subIn K (.ref C_Plain) (.ref C_Rule) = some true) (p_Moved_Rule : PySem.W.subIn K (.ref C_Moved) (.ref C_Rule) = some true) (p_Mixed_Rule : PySem.W.subIn K (.ref C_Mixed) (.ref C_Rule) = some true) (p_Plain_Plain : PySem.W.subIn K (.ref C_Plain) (.ref C_Plain) = some true) (p_Moved_Plain : PySem.W.subIn K (.ref C_Moved) (.ref C_Plain) = some false) (p_Mixed_Plain : PySem.W.subIn K (.ref C_Mixed) (.ref C_Plain) = some false) (p_Plain_Moved : PySem.W.subIn K (.ref C_Plain) (.ref C_Moved) = some false) (p_Moved_Moved : PySem.W.subIn K (.ref C_Moved) (.ref C_Moved) = some true) (p_Mixed_Moved : PySem.W.subIn K (.ref C_Mixed) (.ref C_Moved) = some false) (p_Plain_Mixed : PySem.W.subIn K (.ref C_Plain) (.ref C_Mixed) = some false) (p_Moved_Mixed : PySem.W.subIn K (.ref C_Moved) (.ref C_Mixed) = some false) (p_Mixed_Mixed : PySem.W.subIn K (.ref C_Mixed) (.ref C_Mixed) = some true) (bI_isinstance : mg "isinstance" = none) : FnOk Pr wo K mg base CX0 1 f fd ["_law_rule_here", "_law_row"] (sp__law_of_its_class K) := by
  refine F.ok sc__law_of_its_class (fun vs H Q E h => ?_) (fun cdv A outer s H0 vs Q E hr h => ?_)
  · obtain ⟨_, _, _, _, _, _, rfl, _⟩ := h; rfl
  · obtain ⟨B0, v_rule_here, a_rule_here, v_row, a_row, w, rfl, r_rule_here, r_row, P⟩ := h
    have w0 := w
    have hu := hu_of hr
    have hu64 := hu64_of hr
    have hu65 := hu65_of hr
    refine ⟨_, (pss_cons (ps_if (pt_not (pt_val (pe_callB (r := rIsi K) call_isi (by rfl) bI_isinstance PyProof.Rows.boot_isinstance (pa_cons (pv 0) (pa_cons (pe_glob (v := .ref C_Rule) (by rfl) T_Rule.g rfl) pa_nil))))) (pss_one (ps_ret pe_bl)) pss_nil)
      (pss_cons (ps_if (pt_cmpR (r := rEqD K) (op_eqD hu64) (pe_ix (r := rIxT K) ix_tup (pv 1) pe_int (fun _ _ => rfl)) pe_str (nomark _)) (pss_one (ps_ret (pe_callB (r := rIsi K) call_isi (by rfl) bI_isinstance PyProof.Rows.boot_isinstance (pa_cons (pv 0) (pa_cons (pe_glob (v := .ref C_Plain) (by rfl) T_Plain.g rfl) pa_nil))))) pss_nil)
      (pss_cons (ps_if (pt_cmpR (r := rEqD K) (op_eqD hu64) (pe_ix (r := rIxT K) ix_tup (pv 1) pe_int (fun _ _ => rfl)) pe_str (nomark _)) (pss_one (ps_ret (pe_callB (r := rIsi K) call_isi (by rfl) bI_isinstance PyProof.Rows.boot_isinstance (pa_cons (pv 0) (pa_cons (pe_glob (v := .ref C_Moved) (by rfl) T_Moved.g rfl) pa_nil))))) pss_nil)
      (pss_one (ps_ret (pe_callB (r := rIsi K) call_isi (by rfl) bI_isinstance PyProof.Rows.boot_isinstance (pa_cons (pv 0) (pa_cons (pe_glob (v := .ref C_Mixed) (by rfl) T_Mixed.g rfl) pa_nil)))))))), ?_⟩
    unfold l_of_its_class at P
    have st := Stp.refl (W := []) w
    refine h_seq <| h_if ?_
    refine h_tnot ?_
    refine h_tB ?_
    refine h_cb ?_
    refine h_cons ?_
    refine h_var rfl ?_
    refine h_cons ?_
    refine h_c ?_
    refine h_nil ?_
    obtain ⟨b1, hb2, P⟩ := P.isC
    refine h_isK (tab := [("Mixed", true), ("Moved", true), ("Plain", true)]) w (r_rule_here.mono st.ex) T_Rule ⟨⟨_, T_Mixed.toKC, p_Mixed_Rule⟩, ⟨⟨_, T_Moved.toKC, p_Moved_Rule⟩, ⟨⟨_, T_Plain.toKC, p_Plain_Rule⟩, trivial⟩⟩⟩ hb2 ?_
    refine h_bl ?_
    refine h_iteN (fun c1 => ?_) (fun c1 => ?_)
    · replace P := P.iteF c1
      refine h_ret ?_
      refine h_c ?_
      exact P.ok _ _ _ st (Rep.bl _)
    · replace P := P.iteT c1
      refine h_next ?_
      refine h_nx ?_
      refine h_seq <| h_if ?_
      refine h_test ?_
      refine h_op ?_
      refine h_op ?_
      refine h_var rfl ?_
      refine h_c ?_
      obtain ⟨l3, hl4, P⟩ := P.asT
      have rc5 := (r_row.mono st.ex)
      rw [hl4] at rc5
      obtain ⟨p6, xs7, rfl, hs8, hr9⟩ := Rep.st w rc5
      obtain ⟨x10, hx11, P⟩ := P.ix
      obtain ⟨u12, hu, r13⟩ := RepL.atE hr9 hx11
      refine h_ixT hs8 hu ?_
      refine h_c ?_
      obtain ⟨gd, P⟩ := P.guard
      refine h_eqD (d := x10) (e := (enc ("plain" : Str))) w r13 (Rep.str _) gd ?_
      refine h_bl ?_
      refine h_ite (fun c1 => ?_) (fun c1 => ?_)
      · replace P := P.iteT c1
        refine h_ret ?_
        refine h_cb ?_
        refine h_cons ?_
        refine h_var rfl ?_
        refine h_cons ?_
        refine h_c ?_
        refine h_nil ?_
        obtain ⟨b14, hb15, P⟩ := P.isC
        refine h_isK (tab := [("Mixed", false), ("Moved", false), ("Plain", true)]) w (r_rule_here.mono st.ex) T_Plain ⟨⟨_, T_Mixed.toKC, p_Mixed_Plain⟩, ⟨⟨_, T_Moved.toKC, p_Moved_Plain⟩, ⟨⟨_, T_Plain.toKC, p_Plain_Plain⟩, trivial⟩⟩⟩ hb15 ?_
        exact P.ok _ _ _ st (Rep.bl _)
      · replace P := P.iteF c1
        refine h_next ?_
        refine h_nx ?_
        refine h_seq <| h_if ?_
        refine h_test ?_
        refine h_op ?_
        refine h_op ?_
        refine h_var rfl ?_
        refine h_c ?_
        obtain ⟨l16, hl17, P⟩ := P.asT
        have rc18 := (r_row.mono st.ex)
        rw [hl17] at rc18
        obtain ⟨p19, xs20, hv, hs21, hr22⟩ := Rep.st w rc18
        cases hv
        obtain ⟨x23, hx24, P⟩ := P.ix
        obtain ⟨u25, hu, r26⟩ := RepL.atE hr22 hx24
        refine h_ixT hs21 hu ?_
        refine h_c ?_
        obtain ⟨gd, P⟩ := P.guard
        refine h_eqD (d := x23) (e := (enc ("moved" : Str))) w r26 (Rep.str _) gd ?_
        refine h_bl ?_
        refine h_ite (fun c1 => ?_) (fun c1 => ?_)
        · replace P := P.iteT c1
          refine h_ret ?_
          refine h_cb ?_
          refine h_cons ?_
          refine h_var rfl ?_
          refine h_cons ?_
          refine h_c ?_
          refine h_nil ?_
          obtain ⟨b27, hb28, P⟩ := P.isC
          refine h_isK (tab := [("Mixed", false), ("Moved", true), ("Plain", false)]) w (r_rule_here.mono st.ex) T_Moved ⟨⟨_, T_Mixed.toKC, p_Mixed_Moved⟩, ⟨⟨_, T_Moved.toKC, p_Moved_Moved⟩, ⟨⟨_, T_Plain.toKC, p_Plain_Moved⟩, trivial⟩⟩⟩ hb28 ?_
          exact P.ok _ _ _ st (Rep.bl _)
        · replace P := P.iteF c1
          refine h_next ?_
          refine h_nx ?_
          refine h_ret ?_
          refine h_cb ?_
          refine h_cons ?_
          refine h_var rfl ?_
          refine h_cons ?_
          refine h_c ?_
          refine h_nil ?_
          obtain ⟨b29, hb30, P⟩ := P.isC
          refine h_isK (tab := [("Mixed", true), ("Moved", false), ("Plain", false)]) w (r_rule_here.mono st.ex) T_Mixed ⟨⟨_, T_Mixed.toKC, p_Mixed_Mixed⟩, ⟨⟨_, T_Moved.toKC, p_Moved_Mixed⟩, ⟨⟨_, T_Plain.toKC, p_Plain_Mixed⟩, trivial⟩⟩⟩ hb30 ?_
          exact P.ok _ _ _ st (Rep.bl _)
theorem ok__law_numbers {f : Addr} {fd : FuncData}  (F : Fun K "_law_numbers" "_law_numbers" s__law_numbers f fd) {f__law_whole : Addr} {d__law_whole : FuncData} (g__law_whole : mg "_law_whole" = some (.ref f__law_whole)) (k__law_whole : PySem.W.keepIn K (.ref f__law_whole) = true) (b__law_whole : L2.Binds K d__law_whole ["_law_thing"] []) (G__law_whole : FnOk Pr wo K mg base CX0 1 f__law_whole d__law_whole ["_law_thing"] (sp__law_whole K)) (bI_all : mg "all" = none) (bI_isinstance : mg "isinstance" = none) (bI_tuple : mg "tuple" = none) (bI_str : mg "str" = none) : FnOk Pr wo K mg base CX0 2 f fd ["_law_row", "_law_wanted"] (sp__law_numbers K) := by
  refine F.ok sc__law_numbers (fun vs H Q E h => ?_) (fun cdv A outer s H0 vs Q E hr h => ?_)
  · obtain ⟨_, _, _, _, _, _, rfl, _⟩ := h; rfl
  · obtain ⟨B0, v_row, a_row, v_wanted, a_wanted, w, rfl, r_row, r_wanted, P⟩ := h
    have w0 := w
    have hu := hu_of hr
    have hu64 := hu64_of hr
    have hu65 := hu65_of hr
    have hr1 : Room 1 _ := hr.mono (by decide)
    refine ⟨_, (pss_cons (ps_if (PW.pt (pw_or (pt_not (pt_val (pe_callB (r := rIsi K) call_isi (by rfl) bI_isinstance PyProof.Rows.boot_isinstance (pa_cons (pv 0) (pa_cons (pe_bltn (v := .ty "tuple") (by rfl) bI_tuple Y.boot_tuple rfl) pa_nil))))) (pw_or1 (pt_cmpR (r := rNeD K) (op_neD hu64) (pv 0) (pv 1) (nomark _))))) (pss_one (ps_ret pe_bl)) pss_nil)
      (pss_one (ps_ret (pe_callB (r := rAll K) (cr_all rfl) (by rfl) bI_all PyProof.Rows.boot_all (pa_cons (pe_lc (own := [("_law_one", 2)]) rfl sc__law_numbers.nd (pi_tup (pv 0)) (blkOk_by (N := ["_law_row", "_law_wanted", "_law_one"]) (sc := defScope s__law_numbers) (by decide +kernel)) (fun _ _ _ _ _ => (pg_name (i := 2) sc__law_numbers.nd rfl (by first | exact Or.inl rfl | exact Or.inr rfl))) (fun _ _ _ _ _ => pts_nil) (fun _ _ _ _ _ => (pe_or (pe_call G__law_whole hr1 rfl g__law_whole k__law_whole b__law_whole .nil pass0 (pa_cons (pv 2) pa_nil)) (pe_one (pe_callB (r := rIsi K) call_isi (by rfl) bI_isinstance PyProof.Rows.boot_isinstance (pa_cons (pv 2) (pa_cons (pe_bltn (v := .ty "str") (by rfl) bI_str Y.boot_str rfl) pa_nil))))))) pa_nil))))), ?_⟩
    unfold l_numbers at P
    have st := Stp.refl (W := []) w
    refine h_seq <| h_if ?_
    refine h_tor ?_
    refine h_tnot ?_
    refine h_tB ?_
    refine h_cb ?_
    refine h_cons ?_
    refine h_var rfl ?_
    refine h_cons ?_
    refine h_c ?_
    refine h_nil ?_
    refine isi (t := "tuple") w (r_row.mono st.ex) ?_
    refine h_bl ?_
    refine h_iteN (fun c1 => ?_) (fun c1 => ?_)
    · replace P := P.iteF c1
      refine h_iteT ?_
      refine h_ret ?_
      refine h_c ?_
      exact P.ok _ _ _ st (Rep.bl _)
    · replace P := P.iteT c1
      refine h_test ?_
      refine h_op ?_
      refine h_var rfl ?_
      refine h_var rfl ?_
      obtain ⟨gd, P⟩ := P.guard
      refine h_neD (d := a_row) (e := a_wanted) w (r_row.mono st.ex) (r_wanted.mono st.ex) gd ?_
      refine h_bl ?_
      refine h_ite (fun c1 => ?_) (fun c1 => ?_)
      · replace P := P.iteT c1
        refine h_ret ?_
        refine h_c ?_
        exact P.ok _ _ _ st (Rep.bl _)
      · replace P := P.iteF c1
        refine h_next ?_
        refine h_nx ?_
        refine h_ret ?_
        refine h_cb ?_
        refine h_cons ?_
        refine h_lcUE ?_
        refine h_var rfl ?_
        obtain ⟨l1, hl2, P⟩ := P.asT
        have rc3 := (r_row.mono st.ex)
        rw [hl2] at rc3
        obtain ⟨p4, xs5, rfl, hb6, hr7⟩ := Rep.stB rc3
        refine h_lcU P (w.t hb6) hr7 (fun Dl (acc : List Bool) (a : Unit) H' => ∃ B', Stp [] B0 H0 B' H' ∧ H0 Dl = none ∧ Mu K B' H' Dl (acc.map enc)) (fun Dl hD => ⟨_, Stp.newM w hD, hD, Mu.new w hD .nil⟩) (fun _ _ _ _ j => ?_) ?_ ?_
        · obtain ⟨B17, s18, hD19, m20⟩ := j
          exact s18.ok.t (s18.ex.t hb6)
        · rintro Dl8 N9 T10 x11 v12 acc14 a15 H16 ⟨B17, s18, hD19, m20⟩ r13 hz21 kk22 kn23 P
          have wj25 := w
          have sj24 := s18
          have n26 := st.nn hD19
          replace st := st.go s18 go0
          replace w := s18.ok
          replace r13 := r13.mono s18.ex
          refine h_gname ?_
          refine h_lcT rfl ?_
          have wj28 := w
          have sj27 := Stp.refl (W := []) w
          refine h_exprJ P (fun (a : Bool) v H' => ∃ B', Stp [] B17 H16 B' H' ∧ v = .bl a) (fun N kk29 P => ?_) ?_
          · skip
            refine h_or ?_
            refine h_call ?_
            refine h_cons ?_
            refine h_var rfl ?_
            refine h_nil ?_
            refine ⟨B17, v12, x11, w, rfl, r13, (P.bind).mono (fun x30 P => ?_) (fun _ z => z)⟩
            refine fun v34 B31 H32 s33 r35 => ?_
            replace r13 := r13.mono s33.ex
            replace m20 := m20.step s33 nm0
            replace st := st.go s33 go0
            replace sj24 := sj24.go s33 go0
            replace sj27 := sj27.go s33 go0
            replace w := s33.ok
            cases r35
            refine h_bl ?_
            refine h_ite (fun c1 => ?_) (fun c1 => ?_)
            · replace P := P.iteT c1
              exact kk29 true _ _ ⟨_, sj27, rfl⟩ P.ok
            · replace P := P.iteF c1
              refine h_cb ?_
              refine h_cons ?_
              refine h_var rfl ?_
              refine h_cons ?_
              refine h_c ?_
              refine h_nil ?_
              refine isi (t := "str") w r13 ?_
              exact kk29 (isA "str" x11) _ _ ⟨_, sj27, rfl⟩ P.ok
          rintro a36 v37 H39 ⟨B38, s40, r41⟩ P
          replace r13 := r13.mono s40.ex
          replace m20 := m20.step s40 nm0
          replace st := st.go s40 go0
          replace sj24 := sj24.go s40 go0
          replace w := s40.ok
          subst r41
          refine h_app (b := a36) w m20 (Rep.bl _) hz21 (fun H42 s43 m20 => ?_)
          replace r13 := r13.mono s43.ex
          replace st := st.go s43 (go1 (.inr n26))
          replace sj24 := sj24.go s43 (go1 (.inr hD19))
          replace w := s43.ok
          exact kk22 a36 () _ ⟨_, sj24, hD19, m20⟩ P.ok
        · rintro Dl8 acc14 a15 H16 ⟨B17, s18, hD19, m20⟩ P
          have n44 := st.nn hD19
          replace st := st.go s18 go0
          replace w := s18.ok
          replace P := P.un2
          obtain ⟨B49, e45, k46, g47, r48⟩ := Mu.keep m20
          replace st := g47 _ _ _ st w0 n44
          replace w := st.ok
          replace r48 : Rep K B49 (.ref Dl8) (enc acc14) := r48
          refine h_nil ?_
          obtain ⟨p50, xs51, hv, hs52, hr53⟩ := Rep.sq w r48
          cases hv
          refine h_all hs52 hr53 ?_
          exact P.ok _ _ _ st (Rep.bl _)
theorem ok__law_pairs {f : Addr} {fd : FuncData}  (F : Fun K "_law_pairs" "_law_pairs" s__law_pairs f fd) {f__law_numbers : Addr} {d__law_numbers : FuncData} (g__law_numbers : mg "_law_numbers" = some (.ref f__law_numbers)) (k__law_numbers : PySem.W.keepIn K (.ref f__law_numbers) = true) (b__law_numbers : L2.Binds K d__law_numbers ["_law_row", "_law_wanted"] []) (G__law_numbers : FnOk Pr wo K mg base CX0 2 f__law_numbers d__law_numbers ["_law_row", "_law_wanted"] (sp__law_numbers K)) (bI_all : mg "all" = none) (bI_isinstance : mg "isinstance" = none) (bI_list : mg "list" = none) (bI_len : mg "len" = none) (bI_zip : mg "zip" = none) : FnOk Pr wo K mg base CX0 3 f fd ["_law_found", "_law_wanted"] (sp__law_pairs K) := by
  refine F.ok sc__law_pairs (fun vs H Q E h => ?_) (fun cdv A outer s H0 vs Q E hr h => ?_)
  · obtain ⟨_, _, _, _, _, _, rfl, _⟩ := h; rfl
  · obtain ⟨B0, v_found, a_found, v_wanted, a_wanted, w, rfl, r_found, r_wanted, P⟩ := h
    have w0 := w
    have hu := hu_of hr
    have hu64 := hu64_of hr
    have hu65 := hu65_of hr
    have hr2 : Room 2 _ := hr.mono (by decide)
    refine ⟨_, (pss_cons (ps_if (PW.pt (pw_or (pt_not (pt_val (pe_callB (r := rIsi K) call_isi (by rfl) bI_isinstance PyProof.Rows.boot_isinstance (pa_cons (pv 0) (pa_cons (pe_bltn (v := .ty "list") (by rfl) bI_list Y.boot_list rfl) pa_nil))))) (pw_or1 (pt_cmpR op_ne (pe_callB (r := rLenY K) cr_len (by rfl) bI_len PySem.boot_len (pa_cons (pv 0) pa_nil)) (pe_callB (r := rLenY K) cr_len (by rfl) bI_len PySem.boot_len (pa_cons (pv 1) pa_nil)) (nomark _))))) (pss_one (ps_ret pe_bl)) pss_nil)
      (pss_one (ps_ret (pe_callB (r := rAll K) (cr_all rfl) (by rfl) bI_all PyProof.Rows.boot_all (pa_cons (pe_lc (own := [("_law_one", 2), ("_law_two", 3)]) rfl sc__law_pairs.nd (pi_zip (by rfl) bI_zip (pa_cons (pv 0) (pa_cons (pv 1) pa_nil))) (blkOk_by (N := ["_law_found", "_law_wanted", "_law_one", "_law_two"]) (sc := defScope s__law_pairs) (by decide +kernel)) (fun _ _ _ _ _ => (pg_tupK (K := K) (n := 2) rfl rfl (pgs_cons (pg_name (i := 2) sc__law_pairs.nd rfl (by first | exact Or.inl rfl | exact Or.inr rfl)) (pgs_cons (pg_name (i := 3) sc__law_pairs.nd rfl (by first | exact Or.inl rfl | exact Or.inr rfl)) pgs_nil)))) (fun _ _ _ _ _ => pts_nil) (fun _ _ _ _ _ => (pe_call G__law_numbers hr2 rfl g__law_numbers k__law_numbers b__law_numbers .nil pass0 (pa_cons (pv 2) (pa_cons (pv 3) pa_nil))))) pa_nil))))), ?_⟩
    unfold l_pairs at P
    have st := Stp.refl (W := []) w
    refine h_seq <| h_if ?_
    refine h_tor ?_
    refine h_tnot ?_
    refine h_tB ?_
    refine h_cb ?_
    refine h_cons ?_
    refine h_var rfl ?_
    refine h_cons ?_
    refine h_c ?_
    refine h_nil ?_
    obtain ⟨p1, xs2, rfl, hs3, hr4⟩ := Bor.sq (r_found.step st)
    refine isiL (t := "list") (l := a_found.map enc) hs3 ?_
    refine h_bl ?_
    refine h_iteN (fun c1 => ?_) (fun c1 => ?_)
    · replace P := P.iteF c1
      refine h_iteT ?_
      refine h_ret ?_
      refine h_c ?_
      exact P.ok _ _ _ st (Rep.bl _)
    · replace P := P.iteT c1
      refine h_test ?_
      refine h_op ?_
      refine h_cb ?_
      refine h_cons ?_
      refine h_var rfl ?_
      refine h_nil ?_
      obtain ⟨p5, xs6, hv, hs7, hr8⟩ := Bor.sq (r_found.step st)
      cases hv
      refine h_len hs7 hr8 ?_
      refine h_cb ?_
      refine h_cons ?_
      refine h_var rfl ?_
      refine h_nil ?_
      obtain ⟨p9, xs10, rfl, hs11, hr12⟩ := Rep.sq w (r_wanted.mono st.ex)
      refine h_len hs11 hr12 ?_
      refine h_neI ?_
      refine h_bl ?_
      refine h_ite (fun c1 => ?_) (fun c1 => ?_)
      · replace P := P.iteT c1
        refine h_ret ?_
        refine h_c ?_
        exact P.ok _ _ _ st (Rep.bl _)
      · replace P := P.iteF c1
        refine h_next ?_
        refine h_nx ?_
        refine h_ret ?_
        refine h_cb ?_
        refine h_cons ?_
        refine h_lcZipE ?_
        refine h_cons ?_
        refine h_var rfl ?_
        refine h_cons ?_
        refine h_var rfl ?_
        refine h_nil ?_
        obtain ⟨p13, xs14, hv, hr16, hb15⟩ := Bor.sq0 r_found
        cases hv
        obtain ⟨p17, xs18, hv, hb19, hr20⟩ := Rep.sqB (r_wanted.mono st.ex)
        cases hv
        refine h_lcZip P (hb15 _ _ st) (hr16.mono st.ex) (w.l hb19) hr20 (fun Dl (acc : List Bool) (a : Unit) H' => ∃ B', Stp [] B0 H0 B' H' ∧ H0 Dl = none ∧ Mu K B' H' Dl (acc.map enc)) (fun Dl hD => ⟨_, Stp.newM w hD, hD, Mu.new w hD .nil⟩) (fun _ _ _ _ j => ?_) ?_ ?_
        · obtain ⟨B30, s31, hD32, m33⟩ := j
          exact ⟨hb15 _ _ (st.go s31 go0), s31.ok.l (s31.ex.l hb19)⟩
        · rintro Dl21 N22 T23 x24 v25 v25z acc27 a28 H29 ⟨B30, s31, hD32, m33⟩ r26 r26z hz34 kk35 kn36 P
          have wj38 := w
          have sj37 := s31
          have n39 := st.nn hD32
          replace st := st.go s31 go0
          replace w := s31.ok
          replace r26 := r26.mono s31.ex
          replace r26z := r26z.mono s31.ex
          refine h_newT w (K := K) (.cons r26 (.cons r26z .nil)) (fun p40 B41 H42 s43 r44 => ?_) (by show 2 ≤ sizeLine; decide)
          replace m33 := m33.step s43 nm0
          replace st := st.go s43 go0
          replace sj37 := sj37.go s43 go0
          replace w := s43.ok
          replace r44 : Rep K B41 (.ref p40) (enc x24) := r44
          obtain ⟨p45, xs46, hv, hs47, hr48⟩ := Rep.st w r44
          cases hv
          obtain ⟨u49, u51, rfl, r50, r52⟩ := RepL.open2 hr48
          refine h_tupG hs47 rfl ?_
          refine h_gcons ?_
          refine h_gname ?_
          refine h_gcons ?_
          refine h_gname ?_
          refine h_gnil ?_
          refine h_lcT rfl ?_
          refine h_call ?_
          refine h_cons ?_
          refine h_var rfl ?_
          refine h_cons ?_
          refine h_var rfl ?_
          refine h_nil ?_
          refine ⟨B41, u49, (enc x24.a), u51, (enc x24.b), w, rfl, r50, r52, (P.bind).mono (fun x53 P => ?_) (fun _ z => z)⟩
          refine fun v57 B54 H55 s56 r58 => ?_
          replace r50 := r50.mono s56.ex
          replace r52 := r52.mono s56.ex
          replace m33 := m33.step s56 nm0
          replace st := st.go s56 go0
          replace sj37 := sj37.go s56 go0
          replace w := s56.ok
          cases r58
          refine h_app (b := x53) w m33 (Rep.bl _) hz34 (fun H59 s60 m33 => ?_)
          replace r50 := r50.mono s60.ex
          replace r52 := r52.mono s60.ex
          replace st := st.go s60 (go1 (.inr n39))
          replace sj37 := sj37.go s60 (go1 (.inr hD32))
          replace w := s60.ok
          exact kk35 x53 () _ ⟨_, sj37, hD32, m33⟩ P.ok
        · rintro Dl21 acc27 a28 H29 ⟨B30, s31, hD32, m33⟩ P
          have n61 := st.nn hD32
          replace st := st.go s31 go0
          replace w := s31.ok
          replace P := P.un2
          obtain ⟨B66, e62, k63, g64, r65⟩ := Mu.keep m33
          replace st := g64 _ _ _ st w0 n61
          replace w := st.ok
          replace r65 : Rep K B66 (.ref Dl21) (enc acc27) := r65
          refine h_nil ?_
          obtain ⟨p67, xs68, hv, hs69, hr70⟩ := Rep.sq w r65
          cases hv
          refine h_all hs69 hr70 ?_
          exact P.ok _ _ _ st (Rep.bl _)
theorem ok_Plain__needs {f : Addr} {fd : FuncData}  (F : Fun K "needs" "Rule.needs" s_Plain__needs f fd)  : FnOk Pr wo K mg base CX0 1 f fd ["self"] (sp_Plain__needs K) := by
  refine F.ok sc_Plain__needs (fun vs H Q E h => ?_) (fun cdv A outer s H0 vs Q E hr h => ?_)
  · obtain ⟨_, _, _, _, rfl, _⟩ := h; rfl
  · obtain ⟨B0, v_self, s_worth, w, rfl, r_self, P⟩ := h
    have w0 := w
    have hu := hu_of hr
    have hu64 := hu64_of hr
    have hu65 := hu65_of hr
    refine ⟨_, (pss_one (ps_ret (pe_lst pa_nil))), ?_⟩
    unfold m_Plain__needs at P
    have st := Stp.refl (W := []) w
    refine h_ret ?_
    refine h_lst ?_
    refine h_nil ?_
    refine h_newM w (ds := (([] : List (Tp2 Int Int))).map enc) (K := K) .nil (fun p1 H2 hn5 s3 m4 => ?_) (by show 0 ≤ sizeLine; decide)
    have n6 := st.nn hn5
    replace st := st.go s3 go0
    replace w := s3.ok
    exact P.ok _ _ _ st n6 m4
theorem ok_Moved__needs {f : Addr} {fd : FuncData}  (F : Fun K "needs" "Moved.needs" s_Moved__needs f fd) {C_Moved : Addr} (T_Moved : KI K mg "Moved" C_Moved) (n_Moved_back : NoAttr K C_Moved "back") (n_Moved_cell : NoAttr K C_Moved "cell") : FnOk Pr wo K mg base CX0 1 f fd ["self"] (sp_Moved__needs K) := by
  refine F.ok sc_Moved__needs (fun vs H Q E h => ?_) (fun cdv A outer s H0 vs Q E hr h => ?_)
  · obtain ⟨_, _, _, _, _, _, rfl, _⟩ := h; rfl
  · obtain ⟨B0, v_self, s_back, s_cell, s_add, w, rfl, r_self, P⟩ := h
    have w0 := w
    have hu := hu_of hr
    have hu64 := hu64_of hr
    have hu65 := hu65_of hr
    refine ⟨_, (pss_one (ps_ret (pe_lst (pa_cons (pe_tup (pa_cons (pe_fld (pv 0) rfl) (pa_cons (pe_fld (pv 0) rfl) pa_nil))) pa_nil)))), ?_⟩
    unfold m_Moved__needs at P
    have st := Stp.refl (W := []) w
    refine h_ret ?_
    refine h_lst ?_
    refine h_cons ?_
    refine h_tup ?_
    refine h_cons ?_
    refine h_fldE ?_
    refine h_var rfl ?_
    refine h_fld w (r_self.mono st.ex) T_Moved.toKC n_Moved_back (d := enc (s_back : Int)) lk0 (fun u1 r2 => ?_)
    cases r2
    refine h_cons ?_
    refine h_fldE ?_
    refine h_var rfl ?_
    refine h_fld w (r_self.mono st.ex) T_Moved.toKC n_Moved_cell (d := enc (s_cell : Int)) (lkS (by decide +kernel) lk0) (fun u3 r4 => ?_)
    cases r4
    refine h_nil ?_
    refine h_newT w (K := K) (.cons (Rep.int _) (.cons (Rep.int _) .nil)) (fun p5 B6 H7 s8 r9 => ?_) (by show 2 ≤ sizeLine; decide)
    replace st := st.go s8 go0
    replace w := s8.ok
    replace r9 : Rep K B6 (.ref p5) (enc (⟨s_back, s_cell⟩ : (Tp2 Int Int))) := r9
    refine h_nil ?_
    refine h_newM w (ds := (([(⟨s_back, s_cell⟩ : (Tp2 Int Int))] : List (Tp2 Int Int))).map enc) (K := K) (.cons r9 .nil) (fun p10 H11 hn14 s12 m13 => ?_) (by show 1 ≤ sizeLine; decide)
    have n15 := st.nn hn14
    replace st := st.go s12 go0
    replace w := s12.ok
    exact P.ok _ _ _ st n15 m13
theorem ok_Mixed__needs {f : Addr} {fd : FuncData}  (F : Fun K "needs" "Mixed.needs" s_Mixed__needs f fd) {C_Mixed : Addr} (T_Mixed : KI K mg "Mixed" C_Mixed) (n_Mixed_back : NoAttr K C_Mixed "back") (n_Mixed_cell : NoAttr K C_Mixed "cell") (n_Mixed_other_back : NoAttr K C_Mixed "other_back") (n_Mixed_other_cell : NoAttr K C_Mixed "other_cell") : FnOk Pr wo K mg base CX0 1 f fd ["self"] (sp_Mixed__needs K) := by
  refine F.ok sc_Mixed__needs (fun vs H Q E h => ?_) (fun cdv A outer s H0 vs Q E hr h => ?_)
  · obtain ⟨_, _, _, _, _, _, _, rfl, _⟩ := h; rfl
  · obtain ⟨B0, v_self, s_back, s_cell, s_other_back, s_other_cell, w, rfl, r_self, P⟩ := h
    have w0 := w
    have hu := hu_of hr
    have hu64 := hu64_of hr
    have hu65 := hu65_of hr
    refine ⟨_, (pss_one (ps_ret (pe_lst (pa_cons (pe_tup (pa_cons (pe_fld (pv 0) rfl) (pa_cons (pe_fld (pv 0) rfl) pa_nil))) (pa_cons (pe_tup (pa_cons (pe_fld (pv 0) rfl) (pa_cons (pe_fld (pv 0) rfl) pa_nil))) pa_nil))))), ?_⟩
    unfold m_Mixed__needs at P
    have st := Stp.refl (W := []) w
    refine h_ret ?_
    refine h_lst ?_
    refine h_cons ?_
    refine h_tup ?_
    refine h_cons ?_
    refine h_fldE ?_
    refine h_var rfl ?_
    refine h_fld w (r_self.mono st.ex) T_Mixed.toKC n_Mixed_back (d := enc (s_back : Int)) lk0 (fun u1 r2 => ?_)
    cases r2
    refine h_cons ?_
    refine h_fldE ?_
    refine h_var rfl ?_
    refine h_fld w (r_self.mono st.ex) T_Mixed.toKC n_Mixed_cell (d := enc (s_cell : Int)) (lkS (by decide +kernel) lk0) (fun u3 r4 => ?_)
    cases r4
    refine h_nil ?_
    refine h_newT w (K := K) (.cons (Rep.int _) (.cons (Rep.int _) .nil)) (fun p5 B6 H7 s8 r9 => ?_) (by show 2 ≤ sizeLine; decide)
    replace st := st.go s8 go0
    replace w := s8.ok
    replace r9 : Rep K B6 (.ref p5) (enc (⟨s_back, s_cell⟩ : (Tp2 Int Int))) := r9
    refine h_cons ?_
    refine h_tup ?_
    refine h_cons ?_
    refine h_fldE ?_
    refine h_var rfl ?_
    refine h_fld w (r_self.mono st.ex) T_Mixed.toKC n_Mixed_other_back (d := enc (s_other_back : Int)) (lkS (by decide +kernel) (lkS (by decide +kernel) lk0)) (fun u10 r11 => ?_)
    cases r11
    refine h_cons ?_
    refine h_fldE ?_
    refine h_var rfl ?_
    refine h_fld w (r_self.mono st.ex) T_Mixed.toKC n_Mixed_other_cell (d := enc (s_other_cell : Int)) (lkS (by decide +kernel) (lkS (by decide +kernel) (lkS (by decide +kernel) lk0))) (fun u12 r13 => ?_)
    cases r13
    refine h_nil ?_
    refine h_newT w (K := K) (.cons (Rep.int _) (.cons (Rep.int _) .nil)) (fun p14 B15 H16 s17 r18 => ?_) (by show 2 ≤ sizeLine; decide)
    replace r9 := r9.mono s17.ex
    replace st := st.go s17 go0
    replace w := s17.ok
    replace r18 : Rep K B15 (.ref p14) (enc (⟨s_other_back, s_other_cell⟩ : (Tp2 Int Int))) := r18
    refine h_nil ?_
    refine h_newM w (ds := (([(⟨s_back, s_cell⟩ : (Tp2 Int Int)), (⟨s_other_back, s_other_cell⟩ : (Tp2 Int Int))] : List (Tp2 Int Int))).map enc) (K := K) (.cons r9 (.cons r18 .nil)) (fun p19 H20 hn23 s21 m22 => ?_) (by show 2 ≤ sizeLine; decide)
    have n24 := st.nn hn23
    replace st := st.go s21 go0
    replace w := s21.ok
    exact P.ok _ _ _ st n24 m22
theorem ok_Plain__value {f : Addr} {fd : FuncData}  (F : Fun K "value" "Plain.value" s_Plain__value f fd) {C_Plain : Addr} (T_Plain : KI K mg "Plain" C_Plain) (n_Plain_worth : NoAttr K C_Plain "worth") : FnOk Pr wo K mg base CX0 1 f fd ["self", "found"] (sp_Plain__value K) := by
  refine F.ok sc_Plain__value (fun vs H Q E h => ?_) (fun cdv A outer s H0 vs Q E hr h => ?_)
  · obtain ⟨_, _, _, _, _, _, rfl, _⟩ := h; rfl
  · obtain ⟨B0, v_self, s_worth, v_found, a_found, w, rfl, r_self, r_found, P⟩ := h
    have w0 := w
    have hu := hu_of hr
    have hu64 := hu64_of hr
    have hu65 := hu65_of hr
    refine ⟨_, (pss_one (ps_ret (pe_fld (pv 0) rfl))), ?_⟩
    unfold m_Plain__value at P
    have st := Stp.refl (W := []) w
    refine h_ret ?_
    refine h_fldE ?_
    refine h_var rfl ?_
    refine h_fld w (r_self.mono st.ex) T_Plain.toKC n_Plain_worth (d := enc (s_worth : Int)) lk0 (fun u1 r2 => ?_)
    cases r2
    exact P.ok _ _ _ st (Rep.int _)
theorem ok_Moved__value {f : Addr} {fd : FuncData}  (F : Fun K "value" "Moved.value" s_Moved__value f fd) {C_Moved : Addr} (T_Moved : KI K mg "Moved" C_Moved) (n_Moved_add : NoAttr K C_Moved "add") : FnOk Pr wo K mg base CX0 1 f fd ["self", "found"] (sp_Moved__value K) := by
  refine F.ok sc_Moved__value (fun vs H Q E h => ?_) (fun cdv A outer s H0 vs Q E hr h => ?_)
  · obtain ⟨_, _, _, _, _, _, _, _, rfl, _⟩ := h; rfl
  · obtain ⟨B0, v_self, s_back, s_cell, s_add, v_found, a_found, w, rfl, r_self, r_found, P⟩ := h
    have w0 := w
    have hu := hu_of hr
    have hu64 := hu64_of hr
    have hu65 := hu65_of hr
    refine ⟨_, (pss_one (ps_ret (pe_op (r := rAnd255) op_and255 (pe_op op_add (pe_ix (r := rIxL K) ix_list (pv 1) pe_int (fun _ _ => rfl)) (pe_fld (pv 0) rfl)) pe_int))), ?_⟩
    unfold m_Moved__value at P
    have st := Stp.refl (W := []) w
    refine h_ret ?_
    refine h_op ?_
    refine h_op ?_
    refine h_op ?_
    refine h_var rfl ?_
    refine h_c ?_
    obtain ⟨p1, xs2, rfl, hs3, hr4⟩ := Bor.sq (r_found.step st)
    obtain ⟨x5, hx6, P⟩ := P.ix
    obtain ⟨u7, hu, r8⟩ := RepL.atE hr4 hx6
    refine h_ixL hs3 hu ?_
    cases r8
    refine h_fldE ?_
    refine h_var rfl ?_
    refine h_fld w (r_self.mono st.ex) T_Moved.toKC n_Moved_add (d := enc (s_add : Int)) (lkS (by decide +kernel) (lkS (by decide +kernel) lk0)) (fun u9 r10 => ?_)
    cases r10
    refine h_I0 ?_
    refine h_c ?_
    refine h_and255 ?_
    exact P.ok _ _ _ st (Rep.int _)
theorem ok_Mixed__value {f : Addr} {fd : FuncData}  (F : Fun K "value" "Mixed.value" s_Mixed__value f fd) (bI_sum : mg "sum" = none) : FnOk Pr wo K mg base CX0 1 f fd ["self", "found"] (sp_Mixed__value K) := by
  refine F.ok sc_Mixed__value (fun vs H Q E h => ?_) (fun cdv A outer s H0 vs Q E hr h => ?_)
  · obtain ⟨_, _, _, _, _, _, _, _, _, rfl, _⟩ := h; rfl
  · obtain ⟨B0, v_self, s_back, s_cell, s_other_back, s_other_cell, v_found, a_found, w, rfl, r_self, r_found, P⟩ := h
    have w0 := w
    have hu := hu_of hr
    have hu64 := hu64_of hr
    have hu65 := hu65_of hr
    refine ⟨_, (pss_one (ps_ret (pe_op op_fdiv (pe_callB (r := rSum K) (cr_sum rfl) (by rfl) bI_sum PyProof.Rows.boot_sum (pa_cons (pv 1) pa_nil)) pe_int))), ?_⟩
    unfold m_Mixed__value at P
    have st := Stp.refl (W := []) w
    refine h_ret ?_
    refine h_op ?_
    refine h_cb ?_
    refine h_cons ?_
    refine h_var rfl ?_
    refine h_nil ?_
    obtain ⟨p1, xs2, rfl, hs3, hr4⟩ := Bor.sq (r_found.step st)
    refine h_sum hs3 hr4 ?_
    refine h_c ?_
    refine h_I ⟨by decide +kernel, by decide +kernel⟩ ?_
    exact P.ok _ _ _ st (Rep.int _)
theorem ok_Plain____str__ {f : Addr} {fd : FuncData}  (F : Fun K "__str__" "Plain.__str__" s_Plain____str__ f fd) {C_Plain : Addr} (T_Plain : KI K mg "Plain" C_Plain) (n_Plain_worth : NoAttr K C_Plain "worth") (bI_str : mg "str" = none) : FnOk Pr wo K mg base CX0 1 f fd ["self"] (sp_Plain____str__ K) := by
  refine F.ok sc_Plain____str__ (fun vs H Q E h => ?_) (fun cdv A outer s H0 vs Q E hr h => ?_)
  · obtain ⟨_, _, _, _, rfl, _⟩ := h; rfl
  · obtain ⟨B0, v_self, s_worth, w, rfl, r_self, P⟩ := h
    have w0 := w
    have hu := hu_of hr
    have hu64 := hu64_of hr
    have hu65 := hu65_of hr
    refine ⟨_, (pss_one (ps_ret (pe_callTy cr_str (by rfl) bI_str Y.boot_str (pa_cons (pe_fld (pv 0) rfl) pa_nil)))), ?_⟩
    unfold m_Plain____str__ at P
    have st := Stp.refl (W := []) w
    refine h_ret ?_
    refine h_cb ?_
    refine h_cons ?_
    refine h_fldE ?_
    refine h_var rfl ?_
    refine h_fld w (r_self.mono st.ex) T_Plain.toKC n_Plain_worth (d := enc (s_worth : Int)) lk0 (fun u1 r2 => ?_)
    cases r2
    refine h_nil ?_
    obtain ⟨gd, P⟩ := P.guard
    refine h_str gd ?_
    exact P.ok _ _ _ st (Rep.str _)
theorem ok_Moved____str__ {f : Addr} {fd : FuncData}  (F : Fun K "__str__" "Moved.__str__" s_Moved____str__ f fd) {C_Moved : Addr} (T_Moved : KI K mg "Moved" C_Moved) (n_Moved_back : NoAttr K C_Moved "back") (n_Moved_cell : NoAttr K C_Moved "cell") (n_Moved_add : NoAttr K C_Moved "add") : FnOk Pr wo K mg base CX0 1 f fd ["self"] (sp_Moved____str__ K) := by
  refine F.ok sc_Moved____str__ (fun vs H Q E h => ?_) (fun cdv A outer s H0 vs Q E hr h => ?_)
  · obtain ⟨_, _, _, _, _, _, rfl, _⟩ := h; rfl
  · obtain ⟨B0, v_self, s_back, s_cell, s_add, w, rfl, r_self, P⟩ := h
    have w0 := w
    have hu := hu_of hr
    have hu64 := hu64_of hr
    have hu65 := hu65_of hr
    refine ⟨_, (pss_one (ps_ret (show PE _ _ (tJoin _) from pe_joined (PJ.cons (pe_fmt (pe_fld (pv 0) rfl)) (PJ.cons pe_str (PJ.cons (pe_fmt (pe_fld (pv 0) rfl)) (PJ.cons pe_str (PJ.cons (pe_fmt (pe_fld (pv 0) rfl)) PJ.nil)))))))), ?_⟩
    unfold m_Moved____str__ at P
    have st := Stp.refl (W := []) w
    refine h_ret ?_
    refine h_join ?_
    refine h_js ?_
    refine h_fmt ?_
    refine h_fldE ?_
    refine h_var rfl ?_
    refine h_fld w (r_self.mono st.ex) T_Moved.toKC n_Moved_back (d := enc (s_back : Int)) lk0 (fun u1 r2 => ?_)
    cases r2
    obtain ⟨gd, P⟩ := P.guard
    refine .inr ⟨_, rfl, gd, ?_⟩
    obtain ⟨gd, P⟩ := P.guard
    refine h_jsS gd ?_
    refine h_js ?_
    refine h_c ?_
    obtain ⟨gd, P⟩ := P.guard
    refine h_jsS gd ?_
    refine h_js ?_
    refine h_fmt ?_
    refine h_fldE ?_
    refine h_var rfl ?_
    refine h_fld w (r_self.mono st.ex) T_Moved.toKC n_Moved_cell (d := enc (s_cell : Int)) (lkS (by decide +kernel) lk0) (fun u3 r4 => ?_)
    cases r4
    obtain ⟨gd, P⟩ := P.guard
    refine .inr ⟨_, rfl, gd, ?_⟩
    obtain ⟨gd, P⟩ := P.guard
    refine h_jsS gd ?_
    refine h_js ?_
    refine h_c ?_
    obtain ⟨gd, P⟩ := P.guard
    refine h_jsS gd ?_
    refine h_js ?_
    refine h_fmt ?_
    refine h_fldE ?_
    refine h_var rfl ?_
    refine h_fld w (r_self.mono st.ex) T_Moved.toKC n_Moved_add (d := enc (s_add : Int)) (lkS (by decide +kernel) (lkS (by decide +kernel) lk0)) (fun u5 r6 => ?_)
    cases r6
    obtain ⟨gd, P⟩ := P.guard
    refine .inr ⟨_, rfl, gd, ?_⟩
    obtain ⟨gd, P⟩ := P.guard
    refine h_jsS gd ?_
    refine h_jsN ?_
    exact P.ok _ _ _ st (Rep.str _)
theorem ok_Mixed____str__ {f : Addr} {fd : FuncData}  (F : Fun K "__str__" "Mixed.__str__" s_Mixed____str__ f fd) {C_Mixed : Addr} (T_Mixed : KI K mg "Mixed" C_Mixed) (n_Mixed_back : NoAttr K C_Mixed "back") (n_Mixed_cell : NoAttr K C_Mixed "cell") (n_Mixed_other_back : NoAttr K C_Mixed "other_back") (n_Mixed_other_cell : NoAttr K C_Mixed "other_cell") : FnOk Pr wo K mg base CX0 1 f fd ["self"] (sp_Mixed____str__ K) := by
  refine F.ok sc_Mixed____str__ (fun vs H Q E h => ?_) (fun cdv A outer s H0 vs Q E hr h => ?_)
  · obtain ⟨_, _, _, _, _, _, _, rfl, _⟩ := h; rfl
  · obtain ⟨B0, v_self, s_back, s_cell, s_other_back, s_other_cell, w, rfl, r_self, P⟩ := h
    have w0 := w
    have hu := hu_of hr
    have hu64 := hu64_of hr
    have hu65 := hu65_of hr
    refine ⟨_, (pss_one (ps_ret (show PE _ _ (tJoin _) from pe_joined (PJ.cons (pe_fmt (pe_fld (pv 0) rfl)) (PJ.cons pe_str (PJ.cons (pe_fmt (pe_fld (pv 0) rfl)) (PJ.cons pe_str (PJ.cons (pe_fmt (pe_fld (pv 0) rfl)) (PJ.cons pe_str (PJ.cons (pe_fmt (pe_fld (pv 0) rfl)) PJ.nil)))))))))), ?_⟩
    unfold m_Mixed____str__ at P
    have st := Stp.refl (W := []) w
    refine h_ret ?_
    refine h_join ?_
    refine h_js ?_
    refine h_fmt ?_
    refine h_fldE ?_
    refine h_var rfl ?_
    refine h_fld w (r_self.mono st.ex) T_Mixed.toKC n_Mixed_back (d := enc (s_back : Int)) lk0 (fun u1 r2 => ?_)
    cases r2
    obtain ⟨gd, P⟩ := P.guard
    refine .inr ⟨_, rfl, gd, ?_⟩
    obtain ⟨gd, P⟩ := P.guard
    refine h_jsS gd ?_
    refine h_js ?_
    refine h_c ?_
    obtain ⟨gd, P⟩ := P.guard
    refine h_jsS gd ?_
    refine h_js ?_
    refine h_fmt ?_
    refine h_fldE ?_
    refine h_var rfl ?_
    refine h_fld w (r_self.mono st.ex) T_Mixed.toKC n_Mixed_cell (d := enc (s_cell : Int)) (lkS (by decide +kernel) lk0) (fun u3 r4 => ?_)
    cases r4
    obtain ⟨gd, P⟩ := P.guard
    refine .inr ⟨_, rfl, gd, ?_⟩
    obtain ⟨gd, P⟩ := P.guard
    refine h_jsS gd ?_
    refine h_js ?_
    refine h_c ?_
    obtain ⟨gd, P⟩ := P.guard
    refine h_jsS gd ?_
    refine h_js ?_
    refine h_fmt ?_
    refine h_fldE ?_
    refine h_var rfl ?_
    refine h_fld w (r_self.mono st.ex) T_Mixed.toKC n_Mixed_other_back (d := enc (s_other_back : Int)) (lkS (by decide +kernel) (lkS (by decide +kernel) lk0)) (fun u5 r6 => ?_)
    cases r6
    obtain ⟨gd, P⟩ := P.guard
    refine .inr ⟨_, rfl, gd, ?_⟩
    obtain ⟨gd, P⟩ := P.guard
    refine h_jsS gd ?_
    refine h_js ?_
    refine h_c ?_
    obtain ⟨gd, P⟩ := P.guard
    refine h_jsS gd ?_
    refine h_js ?_
    refine h_fmt ?_
    refine h_fldE ?_
    refine h_var rfl ?_
    refine h_fld w (r_self.mono st.ex) T_Mixed.toKC n_Mixed_other_cell (d := enc (s_other_cell : Int)) (lkS (by decide +kernel) (lkS (by decide +kernel) (lkS (by decide +kernel) lk0))) (fun u7 r8 => ?_)
    cases r8
    obtain ⟨gd, P⟩ := P.guard
    refine .inr ⟨_, rfl, gd, ?_⟩
    obtain ⟨gd, P⟩ := P.guard
    refine h_jsS gd ?_
    refine h_jsN ?_
    exact P.ok _ _ _ st (Rep.str _)
theorem ok_Plain__told {f : Addr} {fd : FuncData}  (F : Fun K "told" "Plain.told" s_Plain__told f fd) {C_Plain : Addr} (T_Plain : KI K mg "Plain" C_Plain) (n_Plain_worth : NoAttr K C_Plain "worth") : FnOk Pr wo K mg base CX0 1 f fd ["self"] (sp_Plain__told K) := by
  refine F.ok sc_Plain__told (fun vs H Q E h => ?_) (fun cdv A outer s H0 vs Q E hr h => ?_)
  · obtain ⟨_, _, _, _, rfl, _⟩ := h; rfl
  · obtain ⟨B0, v_self, s_worth, w, rfl, r_self, P⟩ := h
    have w0 := w
    have hu := hu_of hr
    have hu64 := hu64_of hr
    have hu65 := hu65_of hr
    refine ⟨_, (pss_one (ps_ret (pe_tup (pa_cons pe_str (pa_cons (pe_fld (pv 0) rfl) pa_nil))))), ?_⟩
    unfold m_Plain__told at P
    have st := Stp.refl (W := []) w
    refine h_ret ?_
    refine h_tup ?_
    refine h_cons ?_
    refine h_c ?_
    refine h_cons ?_
    refine h_fldE ?_
    refine h_var rfl ?_
    refine h_fld w (r_self.mono st.ex) T_Plain.toKC n_Plain_worth (d := enc (s_worth : Int)) lk0 (fun u1 r2 => ?_)
    cases r2
    refine h_nil ?_
    refine h_newT w (K := K) (.cons (Rep.str _) (.cons (Rep.int _) .nil)) (fun p3 B4 H5 s6 r7 => ?_) (by show 2 ≤ sizeLine; decide)
    replace st := st.go s6 go0
    replace w := s6.ok
    replace r7 : Rep K B4 (.ref p3) (enc (⟨("plain" : Str), s_worth⟩ : (Tp2 Str Int))) := r7
    exact P.ok _ _ _ st r7
theorem ok_Moved__told {f : Addr} {fd : FuncData}  (F : Fun K "told" "Moved.told" s_Moved__told f fd) {C_Moved : Addr} (T_Moved : KI K mg "Moved" C_Moved) (n_Moved_back : NoAttr K C_Moved "back") (n_Moved_cell : NoAttr K C_Moved "cell") (n_Moved_add : NoAttr K C_Moved "add") : FnOk Pr wo K mg base CX0 1 f fd ["self"] (sp_Moved__told K) := by
  refine F.ok sc_Moved__told (fun vs H Q E h => ?_) (fun cdv A outer s H0 vs Q E hr h => ?_)
  · obtain ⟨_, _, _, _, _, _, rfl, _⟩ := h; rfl
  · obtain ⟨B0, v_self, s_back, s_cell, s_add, w, rfl, r_self, P⟩ := h
    have w0 := w
    have hu := hu_of hr
    have hu64 := hu64_of hr
    have hu65 := hu65_of hr
    refine ⟨_, (pss_one (ps_ret (pe_tup (pa_cons pe_str (pa_cons (pe_fld (pv 0) rfl) (pa_cons (pe_fld (pv 0) rfl) (pa_cons (pe_fld (pv 0) rfl) pa_nil))))))), ?_⟩
    unfold m_Moved__told at P
    have st := Stp.refl (W := []) w
    refine h_ret ?_
    refine h_tup ?_
    refine h_cons ?_
    refine h_c ?_
    refine h_cons ?_
    refine h_fldE ?_
    refine h_var rfl ?_
    refine h_fld w (r_self.mono st.ex) T_Moved.toKC n_Moved_back (d := enc (s_back : Int)) lk0 (fun u1 r2 => ?_)
    cases r2
    refine h_cons ?_
    refine h_fldE ?_
    refine h_var rfl ?_
    refine h_fld w (r_self.mono st.ex) T_Moved.toKC n_Moved_cell (d := enc (s_cell : Int)) (lkS (by decide +kernel) lk0) (fun u3 r4 => ?_)
    cases r4
    refine h_cons ?_
    refine h_fldE ?_
    refine h_var rfl ?_
    refine h_fld w (r_self.mono st.ex) T_Moved.toKC n_Moved_add (d := enc (s_add : Int)) (lkS (by decide +kernel) (lkS (by decide +kernel) lk0)) (fun u5 r6 => ?_)
    cases r6
    refine h_nil ?_
    refine h_newT w (K := K) (.cons (Rep.str _) (.cons (Rep.int _) (.cons (Rep.int _) (.cons (Rep.int _) .nil)))) (fun p7 B8 H9 s10 r11 => ?_) (by show 4 ≤ sizeLine; decide)
    replace st := st.go s10 go0
    replace w := s10.ok
    replace r11 : Rep K B8 (.ref p7) (enc (⟨("moved" : Str), s_back, s_cell, s_add⟩ : (Tp4 Str Int Int Int))) := r11
    exact P.ok _ _ _ st r11
theorem ok_Mixed__told {f : Addr} {fd : FuncData}  (F : Fun K "told" "Mixed.told" s_Mixed__told f fd) {C_Mixed : Addr} (T_Mixed : KI K mg "Mixed" C_Mixed) (n_Mixed_back : NoAttr K C_Mixed "back") (n_Mixed_cell : NoAttr K C_Mixed "cell") (n_Mixed_other_back : NoAttr K C_Mixed "other_back") (n_Mixed_other_cell : NoAttr K C_Mixed "other_cell") : FnOk Pr wo K mg base CX0 1 f fd ["self"] (sp_Mixed__told K) := by
  refine F.ok sc_Mixed__told (fun vs H Q E h => ?_) (fun cdv A outer s H0 vs Q E hr h => ?_)
  · obtain ⟨_, _, _, _, _, _, _, rfl, _⟩ := h; rfl
  · obtain ⟨B0, v_self, s_back, s_cell, s_other_back, s_other_cell, w, rfl, r_self, P⟩ := h
    have w0 := w
    have hu := hu_of hr
    have hu64 := hu64_of hr
    have hu65 := hu65_of hr
    refine ⟨_, (pss_one (ps_ret (pe_tup (pa_cons pe_str (pa_cons (pe_fld (pv 0) rfl) (pa_cons (pe_fld (pv 0) rfl) (pa_cons (pe_fld (pv 0) rfl) (pa_cons (pe_fld (pv 0) rfl) pa_nil)))))))), ?_⟩
    unfold m_Mixed__told at P
    have st := Stp.refl (W := []) w
    refine h_ret ?_
    refine h_tup ?_
    refine h_cons ?_
    refine h_c ?_
    refine h_cons ?_
    refine h_fldE ?_
    refine h_var rfl ?_
    refine h_fld w (r_self.mono st.ex) T_Mixed.toKC n_Mixed_back (d := enc (s_back : Int)) lk0 (fun u1 r2 => ?_)
    cases r2
    refine h_cons ?_
    refine h_fldE ?_
    refine h_var rfl ?_
    refine h_fld w (r_self.mono st.ex) T_Mixed.toKC n_Mixed_cell (d := enc (s_cell : Int)) (lkS (by decide +kernel) lk0) (fun u3 r4 => ?_)
    cases r4
    refine h_cons ?_
    refine h_fldE ?_
    refine h_var rfl ?_
    refine h_fld w (r_self.mono st.ex) T_Mixed.toKC n_Mixed_other_back (d := enc (s_other_back : Int)) (lkS (by decide +kernel) (lkS (by decide +kernel) lk0)) (fun u5 r6 => ?_)
    cases r6
    refine h_cons ?_
    refine h_fldE ?_
    refine h_var rfl ?_
    refine h_fld w (r_self.mono st.ex) T_Mixed.toKC n_Mixed_other_cell (d := enc (s_other_cell : Int)) (lkS (by decide +kernel) (lkS (by decide +kernel) (lkS (by decide +kernel) lk0))) (fun u7 r8 => ?_)
    cases r8
    refine h_nil ?_
    refine h_newT w (K := K) (.cons (Rep.str _) (.cons (Rep.int _) (.cons (Rep.int _) (.cons (Rep.int _) (.cons (Rep.int _) .nil))))) (fun p9 B10 H11 s12 r13 => ?_) (by show 5 ≤ sizeLine; decide)
    replace st := st.go s12 go0
    replace w := s12.ok
    replace r13 : Rep K B10 (.ref p9) (enc (⟨("mixed" : Str), s_back, s_cell, s_other_back, s_other_cell⟩ : (Tp5 Str Int Int Int Int))) := r13
    exact P.ok _ _ _ st r13
theorem ok__law_right {f : Addr} {fd : FuncData}  (F : Fun K "_law_right" "_law_right" s__law_right f fd) {C_Plain : Addr} (T_Plain : KI K mg "Plain" C_Plain) {C_Moved : Addr} (T_Moved : KI K mg "Moved" C_Moved) {C_Mixed : Addr} (T_Mixed : KI K mg "Mixed" C_Mixed) (L_Rule__told : ∀ C sp, A_Rule__told K mg C_Plain C_Moved C_Mixed C sp → MAlt Pr wo K mg base CX0 1 "told" C sp) (L_Rule__needs : ∀ C sp, A_Rule__needs K mg C_Plain C_Moved C_Mixed C sp → MAlt Pr wo K mg base CX0 1 "needs" C sp) (L_Rule__value : ∀ C sp, A_Rule__value K mg C_Plain C_Moved C_Mixed C sp → MAlt Pr wo K mg base CX0 1 "value" C sp) (L_Rule____str__ : ∀ C sp, A_Rule____str__ K mg C_Plain C_Moved C_Mixed C sp → MAlt Pr wo K mg base CX0 1 "__str__" C sp) {f__law_needs : Addr} {d__law_needs : FuncData} (g__law_needs : mg "_law_needs" = some (.ref f__law_needs)) (k__law_needs : PySem.W.keepIn K (.ref f__law_needs) = true) (b__law_needs : L2.Binds K d__law_needs ["_law_row"] []) (G__law_needs : FnOk Pr wo K mg base CX0 1 f__law_needs d__law_needs ["_law_row"] (sp__law_needs K)) {f__law_pairs : Addr} {d__law_pairs : FuncData} (g__law_pairs : mg "_law_pairs" = some (.ref f__law_pairs)) (k__law_pairs : PySem.W.keepIn K (.ref f__law_pairs) = true) (b__law_pairs : L2.Binds K d__law_pairs ["_law_found", "_law_wanted"] []) (G__law_pairs : FnOk Pr wo K mg base CX0 3 f__law_pairs d__law_pairs ["_law_found", "_law_wanted"] (sp__law_pairs K)) {f__law_of_its_class : Addr} {d__law_of_its_class : FuncData} (g__law_of_its_class : mg "_law_of_its_class" = some (.ref f__law_of_its_class)) (k__law_of_its_class : PySem.W.keepIn K (.ref f__law_of_its_class) = true) (b__law_of_its_class : L2.Binds K d__law_of_its_class ["_law_rule_here", "_law_row"] []) (G__law_of_its_class : FnOk Pr wo K mg base CX0 1 f__law_of_its_class d__law_of_its_class ["_law_rule_here", "_law_row"] (sp__law_of_its_class K)) {f__law_numbers : Addr} {d__law_numbers : FuncData} (g__law_numbers : mg "_law_numbers" = some (.ref f__law_numbers)) (k__law_numbers : PySem.W.keepIn K (.ref f__law_numbers) = true) (b__law_numbers : L2.Binds K d__law_numbers ["_law_row", "_law_wanted"] []) (G__law_numbers : FnOk Pr wo K mg base CX0 2 f__law_numbers d__law_numbers ["_law_row", "_law_wanted"] (sp__law_numbers K)) {f__law_whole : Addr} {d__law_whole : FuncData} (g__law_whole : mg "_law_whole" = some (.ref f__law_whole)) (k__law_whole : PySem.W.keepIn K (.ref f__law_whole) = true) (b__law_whole : L2.Binds K d__law_whole ["_law_thing"] []) (G__law_whole : FnOk Pr wo K mg base CX0 1 f__law_whole d__law_whole ["_law_thing"] (sp__law_whole K)) {f__law_worth : Addr} {d__law_worth : FuncData} (g__law_worth : mg "_law_worth" = some (.ref f__law_worth)) (k__law_worth : PySem.W.keepIn K (.ref f__law_worth) = true) (b__law_worth : L2.Binds K d__law_worth ["_law_row", "_law_found"] []) (G__law_worth : FnOk Pr wo K mg base CX0 1 f__law_worth d__law_worth ["_law_row", "_law_found"] (sp__law_worth K)) {f__law_word : Addr} {d__law_word : FuncData} (g__law_word : mg "_law_word" = some (.ref f__law_word)) (k__law_word : PySem.W.keepIn K (.ref f__law_word) = true) (b__law_word : L2.Binds K d__law_word ["_law_row"] []) (G__law_word : FnOk Pr wo K mg base CX0 1 f__law_word d__law_word ["_law_row"] (sp__law_word K)) (bI_len : mg "len" = none) (bI_str : mg "str" = none) : FnOk Pr wo K mg base CX0 4 f fd ["_law_rule_here", "_law_row", "_law_worths"] (sp__law_right K) := by
  refine F.ok sc__law_right (fun vs H Q E h => ?_) (fun cdv A outer s H0 vs Q E hr h => ?_)
  · obtain ⟨_, _, _, _, _, _, _, _, rfl, _⟩ := h; rfl
  · obtain ⟨B0, v_rule_here, a_rule_here, v_row, a_row, v_worths, a_worths, w, rfl, r_rule_here, r_row, r_worths, P⟩ := h
    have w0 := w
    have hu := hu_of hr
    have hu64 := hu64_of hr
    have hu65 := hu65_of hr
    have hr1 : Room 1 _ := hr.mono (by decide)
    have hr2 : Room 2 _ := hr.mono (by decide)
    have hr3 : Room 3 _ := hr.mono (by decide)
    refine ⟨_, (pss_cons (ps_set (i := 3) sc__law_right.nd rfl (by first | exact Or.inl rfl | exact Or.inr rfl) (pe_call G__law_needs hr1 rfl g__law_needs k__law_needs b__law_needs .nil pass0 (pa_cons (pv 1) pa_nil)))
      (pss_cons (ps_if (PW.pt (pw_or (pt_not (pt_val (pe_call G__law_of_its_class hr1 rfl g__law_of_its_class k__law_of_its_class b__law_of_its_class .nil pass0 (pa_cons (pv 0) (pa_cons (pv 1) pa_nil))))) (pw_or1 (pt_not (pt_val (pe_call G__law_numbers hr2 rfl g__law_numbers k__law_numbers b__law_numbers .nil pass0 (pa_cons (pe_methP0 (pv 0) L_Rule__told hr1 (atOf pass0)) (pa_cons (pv 1) pa_nil)))))))) (pss_one (ps_ret pe_bl)) pss_nil)
      (pss_cons (ps_set (i := 4) sc__law_right.nd rfl (by first | exact Or.inl rfl | exact Or.inr rfl) (pe_methP0 (pv 0) L_Rule__needs hr1 (atOf pass0)))
      (pss_cons (ps_if (pt_not (pt_val (pe_call G__law_pairs hr3 rfl g__law_pairs k__law_pairs b__law_pairs .nil pass0 (pa_cons (pv 4) (pa_cons (pv 3) pa_nil))))) (pss_one (ps_ret pe_bl)) pss_nil)
      (pss_cons (ps_expr (pe_bm PySem.F.plainAttrs_list PySem.F.slot_list_append PySem.F.type_list_append mt_append (pv 4) (pa_cons (pe_tup (pa_cons pe_int (pa_cons pe_int pa_nil))) pa_nil)))
      (pss_cons (ps_set (i := 5) sc__law_right.nd rfl (by first | exact Or.inl rfl | exact Or.inr rfl) (pe_slice (r := rSlQ K) sl_Q (pv 2) po_none (po_some (pe_callB (r := rLenY K) cr_len (by rfl) bI_len PySem.boot_len (pa_cons (pv 3) pa_nil)))))
      (pss_cons (ps_set (i := 6) sc__law_right.nd rfl (by first | exact Or.inl rfl | exact Or.inr rfl) (pe_methP (pv 0) L_Rule__value hr1 (atOf pass0) (pa_cons (pv 5) pa_nil)))
      (pss_cons (ps_if (PW.pt (pw_or (pt_not (pt_val (pe_call G__law_whole hr1 rfl g__law_whole k__law_whole b__law_whole .nil pass0 (pa_cons (pv 6) pa_nil)))) (pw_or (pt_cmpR op_ne (pv 6) (pe_call G__law_worth hr1 rfl g__law_worth k__law_worth b__law_worth .nil pass0 (pa_cons (pv 1) (pa_cons (pv 2) pa_nil))) (nomark _)) (pw_or1 (pt_cmpR (r := rNeD K) (op_neD hu64) (pv 5) (pe_slice (r := rSlQ K) sl_Q (pv 2) po_none (po_some (pe_callB (r := rLenY K) cr_len (by rfl) bI_len PySem.boot_len (pa_cons (pv 3) pa_nil)))) (nomark _)))))) (pss_one (ps_ret pe_bl)) pss_nil)
      (pss_cons (ps_expr (pe_bm0 PySem.F.plainAttrs_list PySem.F.slot_list_clear PySem.F.type_list_clear mt_clear (pv 5)))
      (pss_one (ps_ret (pe_and (pe_call G__law_pairs hr3 rfl g__law_pairs k__law_pairs b__law_pairs .nil pass0 (pa_cons (pe_methP0 (pv 0) L_Rule__needs hr1 (atOf pass0)) (pa_cons (pv 3) pa_nil))) (pe_one (pe_cmpR op_eq (pe_callTy (r := rStrO (A_Rule____str__ K mg C_Plain C_Moved C_Mixed)) (cr_strO L_Rule____str__ hr2) (by rfl) bI_str Y.boot_str (pa_cons (pv 0) pa_nil)) (pe_call G__law_word hr1 rfl g__law_word k__law_word b__law_word .nil pass0 (pa_cons (pv 1) pa_nil)) (nomark _))))))))))))))), ?_⟩
    unfold l_right at P
    have st := Stp.refl (W := []) w
    refine h_set ?_
    refine h_call ?_
    refine h_cons ?_
    refine h_var rfl ?_
    refine h_nil ?_
    refine ⟨B0, v_row, a_row, w, rfl, (r_row.mono st.ex), (P.bind).mono (fun x1 P => ?_) (fun _ z => z)⟩
    refine fun v5 B2 H3 s4 r6 => ?_
    replace st := st.go s4 go0
    replace w := s4.ok
    refine h_seq <| h_if ?_
    refine h_tor ?_
    refine h_tnot ?_
    refine h_tB ?_
    refine h_call ?_
    refine h_cons ?_
    refine h_var rfl ?_
    refine h_cons ?_
    refine h_var rfl ?_
    refine h_nil ?_
    refine ⟨B2, v_rule_here, a_rule_here, v_row, a_row, w, rfl, (r_rule_here.mono st.ex), (r_row.mono st.ex), (P.bind).mono (fun x7 P => ?_) (fun _ z => z)⟩
    refine fun v11 B8 H9 s10 r12 => ?_
    replace r6 := r6.mono s10.ex
    replace st := st.go s10 go0
    replace w := s10.ok
    cases r12
    refine h_bl ?_
    refine h_iteN (fun c1 => ?_) (fun c1 => ?_)
    · replace P := P.iteF c1
      refine h_iteT ?_
      refine h_ret ?_
      refine h_c ?_
      exact P.ok _ _ _ st (Rep.bl _)
    · replace P := P.iteT c1
      refine h_tnot ?_
      refine h_tB ?_
      refine h_call ?_
      refine h_cons ?_
      refine h_methE ?_
      refine h_var rfl ?_
      obtain ⟨_, _, _, _, _, hv, he, hA, hl, go13⟩ := disp_Rule__told (K := K) (mg := mg) T_Plain T_Moved T_Mixed w (r_rule_here.mono st.ex)
      refine ⟨_, _, _, _, _, hv, he, hA, hl, ?_⟩
      refine h_nil ?_
      refine go13 w (r_rule_here.mono st.ex) (P.bind.mono (fun x14 P => ?_) (fun _ z => z))
      refine fun v18 B15 H16 s17 r19 => ?_
      replace r6 := r6.mono s17.ex
      replace st := st.go s17 go0
      replace w := s17.ok
      refine h_cons ?_
      refine h_var rfl ?_
      refine h_nil ?_
      refine ⟨B15, v18, x14, v_row, a_row, w, rfl, r19, (r_row.mono st.ex), (P.bind).mono (fun x20 P => ?_) (fun _ z => z)⟩
      refine fun v24 B21 H22 s23 r25 => ?_
      replace r6 := r6.mono s23.ex
      replace r19 := r19.mono s23.ex
      replace st := st.go s23 go0
      replace w := s23.ok
      cases r25
      refine h_bl ?_
      refine h_iteN (fun c1 => ?_) (fun c1 => ?_)
      · replace P := P.iteF c1
        refine h_ret ?_
        refine h_c ?_
        exact P.ok _ _ _ st (Rep.bl _)
      · replace P := P.iteT c1
        refine h_next ?_
        refine h_nx ?_
        refine h_set ?_
        refine h_methE ?_
        refine h_var rfl ?_
        obtain ⟨_, _, _, _, _, hv, he, hA, hl, go26⟩ := disp_Rule__needs (K := K) (mg := mg) T_Plain T_Moved T_Mixed w (r_rule_here.mono st.ex)
        refine ⟨_, _, _, _, _, hv, he, hA, hl, ?_⟩
        refine h_nil ?_
        refine go26 w (r_rule_here.mono st.ex) (P.bind.mono (fun x27 P => ?_) (fun _ z => z))
        refine fun p33 B28 H29 s30 hn34 m35 => ?_
        have n36 := st.nn hn34
        replace r6 := r6.mono s30.ex
        replace st := st.go s30 go0
        replace w := s30.ok
        refine h_seq <| h_if ?_
        refine h_tnot ?_
        refine h_tB ?_
        refine h_call ?_
        refine h_cons ?_
        refine h_var rfl ?_
        refine h_cons ?_
        refine h_var rfl ?_
        refine h_nil ?_
        refine ⟨B28, (.ref p33), x27, v5, x1, w, rfl, (m35.bor nm0), r6, (P.bind).mono (fun x37 P => ?_) (fun _ z => z)⟩
        refine fun v41 B38 H39 s40 r42 => ?_
        replace r6 := r6.mono s40.ex
        replace m35 := m35.step s40 nm0
        replace st := st.go s40 go0
        replace w := s40.ok
        cases r42
        refine h_bl ?_
        refine h_iteN (fun c1 => ?_) (fun c1 => ?_)
        · replace P := P.iteF c1
          refine h_ret ?_
          refine h_c ?_
          exact P.ok _ _ _ st (Rep.bl _)
        · replace P := P.iteT c1
          refine h_next ?_
          refine h_nx ?_
          refine h_seq ?_
          refine h_drop ?_
          refine h_bm ?_
          refine h_var rfl ?_
          refine h_bmL m35 ?_
          refine h_cons ?_
          refine h_tup ?_
          refine h_cons ?_
          refine h_c ?_
          refine h_cons ?_
          refine h_c ?_
          refine h_nil ?_
          refine h_newT w (K := K) (.cons (Rep.int _) (.cons (Rep.int _) .nil)) (fun p43 B44 H45 s46 r47 => ?_) (by show 2 ≤ sizeLine; decide)
          replace r6 := r6.mono s46.ex
          replace m35 := m35.step s46 nm0
          replace st := st.go s46 go0
          replace w := s46.ok
          replace r47 : Rep K B44 (.ref p43) (enc (⟨1, 0⟩ : (Tp2 Int Int))) := r47
          refine h_nil ?_
          obtain ⟨gd, P⟩ := P.guard
          refine h_append (b := (⟨1, 0⟩ : (Tp2 Int Int))) w m35 r47 gd (fun H48 s49 m35 => ?_)
          replace r6 := r6.mono s49.ex
          replace st := st.go s49 (go1 (.inr n36))
          replace w := s49.ok
          refine h_nx ?_
          refine h_set ?_
          refine h_sl ?_
          refine h_var rfl ?_
          refine h_nopart ?_
          refine h_part ?_
          refine h_cb ?_
          refine h_cons ?_
          refine h_var rfl ?_
          refine h_nil ?_
          obtain ⟨p50, xs51, rfl, hs52, hr53⟩ := Rep.sq w r6
          refine h_len hs52 hr53 ?_
          refine h_isI ?_
          obtain ⟨p54, xs55, rfl, hs56, hr57⟩ := Rep.sq w (r_worths.mono st.ex)
          refine h_slQ hs56 ?_
          refine h_nwM w (ds := ((cutL a_worths none (some (x1.length : Int)))).map enc) (K := K) (hr57.cut none (some (x1.length : Int))) (fun p58 H59 hn62 s60 m61 => ?_) 
          have n63 := st.nn hn62
          have ne64 := Mu.ne m35 hn62
          replace r6 := r6.mono s60.ex
          replace m35 := m35.step s60 nm0
          replace st := st.go s60 go0
          replace w := s60.ok
          refine h_set ?_
          refine h_methE ?_
          refine h_var rfl ?_
          obtain ⟨_, _, _, _, _, hv, he, hA, hl, go65⟩ := disp_Rule__value (K := K) (mg := mg) T_Plain T_Moved T_Mixed w (r_rule_here.mono st.ex)
          refine ⟨_, _, _, _, _, hv, he, hA, hl, ?_⟩
          refine h_cons ?_
          refine h_var rfl ?_
          refine h_nil ?_
          refine go65 w (r_rule_here.mono st.ex) (.ref p58) (cutL a_worths none (some (x1.length : Int))) (m61.bor nm0) (P.bind.mono (fun x66 P => ?_) (fun _ z => z))
          refine fun v70 B67 H68 s69 r71 => ?_
          replace r6 := r6.mono s69.ex
          replace m35 := m35.step s69 nm0
          replace m61 := m61.step s69 nm0
          replace st := st.go s69 go0
          replace w := s69.ok
          cases r71
          refine h_seq <| h_if ?_
          refine h_tor ?_
          refine h_tnot ?_
          refine h_tB ?_
          refine h_call ?_
          refine h_cons ?_
          refine h_var rfl ?_
          refine h_nil ?_
          refine ⟨B67, .int x66, (enc (x66 : Int)), w, rfl, (Rep.int _), (P.bind).mono (fun x72 P => ?_) (fun _ z => z)⟩
          refine fun v76 B73 H74 s75 r77 => ?_
          replace r6 := r6.mono s75.ex
          replace m35 := m35.step s75 nm0
          replace m61 := m61.step s75 nm0
          replace st := st.go s75 go0
          replace w := s75.ok
          cases r77
          refine h_bl ?_
          refine h_iteN (fun c1 => ?_) (fun c1 => ?_)
          · replace P := P.iteF c1
            refine h_iteT ?_
            refine h_ret ?_
            refine h_c ?_
            exact P.ok _ _ _ st (Rep.bl _)
          · replace P := P.iteT c1
            refine h_tor ?_
            refine h_test ?_
            refine h_op ?_
            refine h_var rfl ?_
            refine h_call ?_
            refine h_cons ?_
            refine h_var rfl ?_
            refine h_cons ?_
            refine h_var rfl ?_
            refine h_nil ?_
            refine ⟨B73, v_row, a_row, (.ref p54), a_worths, w, rfl, (r_row.mono st.ex), (r_worths.mono st.ex), (P.bind).mono (fun x78 P => ?_) (fun _ z => z)⟩
            refine fun v82 B79 H80 s81 r83 => ?_
            replace r6 := r6.mono s81.ex
            replace m35 := m35.step s81 nm0
            replace m61 := m61.step s81 nm0
            replace st := st.go s81 go0
            replace w := s81.ok
            cases r83
            refine h_neI ?_
            refine h_bl ?_
            refine h_ite (fun c1 => ?_) (fun c1 => ?_)
            · replace P := P.iteT c1
              refine h_iteT ?_
              refine h_ret ?_
              refine h_c ?_
              exact P.ok _ _ _ st (Rep.bl _)
            · replace P := P.iteF c1
              refine h_test ?_
              refine h_op ?_
              refine h_var rfl ?_
              refine h_sl ?_
              refine h_var rfl ?_
              refine h_nopart ?_
              refine h_part ?_
              refine h_cb ?_
              refine h_cons ?_
              refine h_var rfl ?_
              refine h_nil ?_
              obtain ⟨p84, xs85, hv, hs86, hr87⟩ := Rep.sq w r6
              cases hv
              refine h_len hs86 hr87 ?_
              refine h_isI ?_
              obtain ⟨p88, xs89, hv, hs90, hr91⟩ := Rep.sq w (r_worths.mono st.ex)
              cases hv
              refine h_slQ hs90 ?_
              refine h_nwL w (ds := ((cutL a_worths none (some (x1.length : Int)))).map enc) (K := K) (hr91.cut none (some (x1.length : Int))) (fun p92 B93 H94 s95 r96 => ?_) 
              replace r6 := r6.mono s95.ex
              replace m35 := m35.step s95 nm0
              replace m61 := m61.step s95 nm0
              replace st := st.go s95 go0
              replace w := s95.ok
              replace r96 : Rep K B93 (.ref p92) (enc (cutL a_worths none (some (x1.length : Int)))) := r96
              obtain ⟨gd, P⟩ := P.guard
              obtain ⟨xs98, hv, hs99, hr100⟩ := Mu.sq m61
              refine h_neC (d := (enc (cutL a_worths none (some (x1.length : Int))))) (e := (enc (cutL a_worths none (some (x1.length : Int))))) (SqL.cp w hs99 hr100) (Rep.cp w r96) gd ?_
              refine h_bl ?_
              refine h_ite (fun c1 => ?_) (fun c1 => ?_)
              · replace P := P.iteT c1
                refine h_ret ?_
                refine h_c ?_
                exact P.ok _ _ _ st (Rep.bl _)
              · replace P := P.iteF c1
                refine h_next ?_
                refine h_nx ?_
                refine h_seq ?_
                refine h_drop ?_
                refine h_bm0 ?_
                refine h_var rfl ?_
                refine h_bmL0 m61 ?_
                refine h_clear w m61 (fun H101 s102 m61 => ?_)
                replace r6 := r6.mono s102.ex
                replace m35 := m35.step s102 (nm1 ne64)
                replace st := st.go s102 (go1 (.inr n63))
                replace w := s102.ok
                refine h_nx ?_
                refine h_ret ?_
                refine h_and ?_
                refine h_call ?_
                refine h_cons ?_
                refine h_methE ?_
                refine h_var rfl ?_
                obtain ⟨_, _, _, _, _, hv, he, hA, hl, go103⟩ := disp_Rule__needs (K := K) (mg := mg) T_Plain T_Moved T_Mixed w (r_rule_here.mono st.ex)
                refine ⟨_, _, _, _, _, hv, he, hA, hl, ?_⟩
                refine h_nil ?_
                refine go103 w (r_rule_here.mono st.ex) (P.bind.mono (fun x104 P => ?_) (fun _ z => z))
                refine fun p110 B105 H106 s107 hn111 m112 => ?_
                have n113 := st.nn hn111
                have ne114 := Mu.ne m35 hn111
                have ne115 := Mu.ne m61 hn111
                replace r6 := r6.mono s107.ex
                replace m35 := m35.step s107 nm0
                replace m61 := m61.step s107 nm0
                replace st := st.go s107 go0
                replace w := s107.ok
                obtain ⟨B120, e116, k117, g118, r119⟩ := Mu.keep m112
                replace st := g118 _ _ _ st w0 n113
                replace r6 := r6.mono e116
                replace m35 := m35.kp e116 k117 ne114
                replace m61 := m61.kp e116 k117 ne115
                replace w := st.ok
                replace r119 : Rep K B120 (.ref p110) (enc x104) := r119
                refine h_cons ?_
                refine h_var rfl ?_
                refine h_nil ?_
                refine ⟨B120, (.ref p110), x104, (.ref p50), x1, w, rfl, (Rep.bor0 w r119), r6, (P.bind).mono (fun x121 P => ?_) (fun _ z => z)⟩
                refine fun v125 B122 H123 s124 r126 => ?_
                replace r6 := r6.mono s124.ex
                replace m35 := m35.step s124 nm0
                replace m61 := m61.step s124 nm0
                replace r119 := r119.mono s124.ex
                replace st := st.go s124 go0
                replace w := s124.ok
                cases r126
                refine h_bl ?_
                refine h_ite (fun c1 => ?_) (fun c1 => ?_)
                · replace P := P.iteT c1
                  refine h_op ?_
                  refine h_cb ?_
                  refine h_cons ?_
                  refine h_var rfl ?_
                  refine h_nil ?_
                  obtain ⟨_, _, _, _, _, hv, he, hA, hl, go127⟩ := disp_Rule____str__ (K := K) (mg := mg) T_Plain T_Moved T_Mixed w (r_rule_here.mono st.ex)
                  refine h_strO ⟨_, _, _, _, _, hv, he, hA, ?_⟩
                  refine go127 w (r_rule_here.mono st.ex) (P.bind.mono (fun x128 P => ?_) (fun _ z => z))
                  refine fun v132 B129 H130 s131 r133 => ?_
                  replace r6 := r6.mono s131.ex
                  replace m35 := m35.step s131 nm0
                  replace m61 := m61.step s131 nm0
                  replace st := st.go s131 go0
                  replace w := s131.ok
                  cases r133
                  refine ⟨_, rfl, ?_⟩
                  refine h_call ?_
                  refine h_cons ?_
                  refine h_var rfl ?_
                  refine h_nil ?_
                  refine ⟨B129, v_row, a_row, w, rfl, (r_row.mono st.ex), (P.bind).mono (fun x134 P => ?_) (fun _ z => z)⟩
                  refine fun v138 B135 H136 s137 r139 => ?_
                  replace r6 := r6.mono s137.ex
                  replace m35 := m35.step s137 nm0
                  replace m61 := m61.step s137 nm0
                  replace st := st.go s137 go0
                  replace w := s137.ok
                  cases r139
                  refine h_eqS ?_
                  exact P.ok _ _ _ st (Rep.bl _)
                · replace P := P.iteF c1
                  exact P.ok _ _ _ st (Rep.bl _)
theorem ok_law {f : Addr} {fd : FuncData}  (F : Fun K "law" "law" s_law f fd) {f__law_rule : Addr} {d__law_rule : FuncData} (g__law_rule : mg "_law_rule" = some (.ref f__law_rule)) (k__law_rule : PySem.W.keepIn K (.ref f__law_rule) = true) (b__law_rule : L2.Binds K d__law_rule ["_law_well_here"] []) (G__law_rule : FnOk Pr wo K mg base CX0 3 f__law_rule d__law_rule ["_law_well_here"] (sp__law_rule K)) {f__law_well : Addr} {d__law_well : FuncData} (g__law_well : mg "_law_well" = some (.ref f__law_well)) (k__law_well : PySem.W.keepIn K (.ref f__law_well) = true) (b__law_well : L2.Binds K d__law_well ["_law_script", "_law_k"] []) (G__law_well : FnOk Pr wo K mg base CX0 2 f__law_well d__law_well ["_law_script", "_law_k"] (sp__law_well K)) {f_rule_of : Addr} {d_rule_of : FuncData} (g_rule_of : mg "rule_of" = some (.ref f_rule_of)) (k_rule_of : PySem.W.keepIn K (.ref f_rule_of) = true) (b_rule_of : L2.Binds K d_rule_of ["told"] []) (G_rule_of : FnOk Pr wo K mg base (L2.CX Pr wo) 3 f_rule_of d_rule_of ["told"] (sp_rule_of K mg)) {f__law_edge : Addr} {d__law_edge : FuncData} (g__law_edge : mg "_law_edge" = some (.ref f__law_edge)) (k__law_edge : PySem.W.keepIn K (.ref f__law_edge) = true) (b__law_edge : L2.Binds K d__law_edge ["_law_well_here", "_law_low", "_law_high"] []) (G__law_edge : FnOk Pr wo K mg base CX0 2 f__law_edge d__law_edge ["_law_well_here", "_law_low", "_law_high"] (sp__law_edge K)) {f__law_right : Addr} {d__law_right : FuncData} (g__law_right : mg "_law_right" = some (.ref f__law_right)) (k__law_right : PySem.W.keepIn K (.ref f__law_right) = true) (b__law_right : L2.Binds K d__law_right ["_law_rule_here", "_law_row", "_law_worths"] []) (G__law_right : FnOk Pr wo K mg base CX0 4 f__law_right d__law_right ["_law_rule_here", "_law_row", "_law_worths"] (sp__law_right K)) {f__law_by_name : Addr} {d__law_by_name : FuncData} (g__law_by_name : mg "_law_by_name" = some (.ref f__law_by_name)) (k__law_by_name : PySem.W.keepIn K (.ref f__law_by_name) = true) (b__law_by_name : L2.Binds K d__law_by_name ["_law_row"] []) (G__law_by_name : FnOk Pr wo K mg base CX0 3 f__law_by_name d__law_by_name ["_law_row"] (sp__law_by_name K)) (kb_rule_of_0_told : KBinds K d_rule_of ["told"] ["told"] (fun us ws => match us, ws with | [], [w0] => [w0] | _, _ => []) (fun us ws => match us, ws with | [], [w0] => [w0] | _, _ => [])) : FnOk Pr wo K mg base CX0 5 f fd ["_law_script"] (sp_law K) := by
  refine F.ok sc_law (fun vs H Q E h => ?_) (fun cdv A outer s H0 vs Q E hr h => ?_)
  · obtain ⟨_, _, _, _, rfl, _⟩ := h; rfl
  · obtain ⟨B0, v_script, a_script, w, rfl, r_script, P⟩ := h
    have w0 := w
    have hu := hu_of hr
    have hu64 := hu64_of hr
    have hu65 := hu65_of hr
    have hr2 : Room 2 _ := hr.mono (by decide)
    have hr3 : Room 3 _ := hr.mono (by decide)
    have hr4 : Room 4 _ := hr.mono (by decide)
    refine ⟨_, (pss_cons (ps_set (i := 1) sc_law.nd rfl (by first | exact Or.inl rfl | exact Or.inr rfl) (pe_call G__law_rule hr3 rfl g__law_rule k__law_rule b__law_rule .nil pass0 (pa_cons (pe_call G__law_well hr2 rfl g__law_well k__law_well b__law_well .nil pass0 (pa_cons (pv 0) (pa_cons pe_int pa_nil))) pa_nil)))
      (pss_cons (ps_set (i := 2) sc_law.nd rfl (by first | exact Or.inl rfl | exact Or.inr rfl) (pe_call G__law_rule hr3 rfl g__law_rule k__law_rule b__law_rule .nil pass0 (pa_cons (pe_call G__law_well hr2 rfl g__law_well k__law_well b__law_well .nil pass0 (pa_cons (pv 0) (pa_cons pe_int pa_nil))) pa_nil)))
      (pss_cons (ps_set (i := 3) sc_law.nd rfl (by first | exact Or.inl rfl | exact Or.inr rfl) (pe_call G__law_well hr2 rfl g__law_well k__law_well b__law_well .nil pass0 (pa_cons (pv 0) (pa_cons pe_int pa_nil))))
      (pss_cons (ps_set (i := 4) sc_law.nd rfl (by first | exact Or.inl rfl | exact Or.inr rfl) (pe_lst (pa_cons (pe_call G__law_edge hr2 rfl g__law_edge k__law_edge b__law_edge .nil pass0 (pa_cons (pv 3) (pa_cons pe_int (pa_cons pe_int pa_nil)))) (pa_cons (pe_call G__law_edge hr2 rfl g__law_edge k__law_edge b__law_edge .nil pass0 (pa_cons (pv 3) (pa_cons pe_int (pa_cons pe_int pa_nil)))) pa_nil))))
      (pss_cons (ps_set (i := 5) sc_law.nd rfl (by first | exact Or.inl rfl | exact Or.inr rfl) (pe_lst (pa_cons (pe_call G__law_edge hr2 rfl g__law_edge k__law_edge b__law_edge .nil pass0 (pa_cons (pv 3) (pa_cons pe_int (pa_cons pe_int pa_nil)))) (pa_cons (pe_call G__law_edge hr2 rfl g__law_edge k__law_edge b__law_edge .nil pass0 (pa_cons (pv 3) (pa_cons pe_int (pa_cons pe_int pa_nil)))) pa_nil))))
      (pss_cons (ps_set (i := 6) sc_law.nd rfl (by first | exact Or.inl rfl | exact Or.inr rfl) (pe_call G_rule_of hr3 rfl g_rule_of k_rule_of b_rule_of .nil passL (pa_cons (pv 1) pa_nil)))
      (pss_cons (ps_if (pt_not (pt_val (pe_call G__law_right hr4 rfl g__law_right k__law_right b__law_right .nil pass0 (pa_cons (pv 6) (pa_cons (pv 1) (pa_cons (pv 4) pa_nil)))))) (pss_one (ps_ret pe_bl)) pss_nil)
      (pss_cons (ps_set (i := 7) sc_law.nd rfl (by first | exact Or.inl rfl | exact Or.inr rfl) (pe_call G_rule_of hr3 rfl g_rule_of k_rule_of b_rule_of .nil passL (pa_cons (pv 2) pa_nil)))
      (pss_cons (ps_if (PW.pt (pw_or (pt_not (pt_val (pe_call G__law_right hr4 rfl g__law_right k__law_right b__law_right .nil pass0 (pa_cons (pv 7) (pa_cons (pv 2) (pa_cons (pv 5) pa_nil)))))) (pw_or1 (pt_not (pt_val (pe_call G__law_right hr4 rfl g__law_right k__law_right b__law_right .nil pass0 (pa_cons (pv 6) (pa_cons (pv 1) (pa_cons (pv 5) pa_nil))))))))) (pss_one (ps_ret pe_bl)) pss_nil)
      (pss_one (ps_ret (pe_and (pe_call G__law_right hr4 rfl g__law_right k__law_right b__law_right .nil pass0 (pa_cons (pe_call G__law_by_name hr3 rfl g__law_by_name k__law_by_name b__law_by_name .nil pass0 (pa_cons (pv 1) pa_nil)) (pa_cons (pv 1) (pa_cons (pv 4) pa_nil)))) (pe_one (pe_call G__law_right hr4 rfl g__law_right k__law_right b__law_right .nil pass0 (pa_cons (pe_callK0 G_rule_of hr3 rfl g_rule_of k_rule_of kb_rule_of_0_told passL (pk_cons (pv 1) pk_nil)) (pa_cons (pv 1) (pa_cons (pv 4) pa_nil))))))))))))))))), ?_⟩
    unfold m_law at P
    have st := Stp.refl (W := []) w
    refine h_set ?_
    refine h_call ?_
    refine h_cons ?_
    refine h_call ?_
    refine h_cons ?_
    refine h_var rfl ?_
    refine h_cons ?_
    refine h_c ?_
    refine h_nil ?_
    refine ⟨B0, v_script, a_script, 0, w, rfl, ((r_script.step st).w sub0), (P.bind).mono (fun x1 P => ?_) (fun _ z => z)⟩
    refine fun p7 B2 H3 s4 hn8 m9 => ?_
    have n11 := st.nn hn8
    replace st := st.go s4 go0
    replace w := s4.ok
    refine h_nil ?_
    refine ⟨B2, p7, x1, w, rfl, m9, (P.bind).mono (fun x12 P => ?_) (fun _ z => z)⟩
    refine fun v16 B13 H14 s15 m9 r17 => ?_
    replace st := st.go s15 (go1 (.inr n11))
    replace w := s15.ok
    refine h_set ?_
    refine h_call ?_
    refine h_cons ?_
    refine h_call ?_
    refine h_cons ?_
    refine h_var rfl ?_
    refine h_cons ?_
    refine h_c ?_
    refine h_nil ?_
    refine ⟨B13, v_script, a_script, 1, w, rfl, ((r_script.step st).w sub0), (P.bind).mono (fun x18 P => ?_) (fun _ z => z)⟩
    refine fun p24 B19 H20 s21 hn25 m26 => ?_
    have n28 := st.nn hn25
    replace r17 := r17.mono s21.ex
    replace st := st.go s21 go0
    replace w := s21.ok
    refine h_nil ?_
    refine ⟨B19, p24, x18, w, rfl, m26, (P.bind).mono (fun x29 P => ?_) (fun _ z => z)⟩
    refine fun v33 B30 H31 s32 m26 r34 => ?_
    replace r17 := r17.mono s32.ex
    replace st := st.go s32 (go1 (.inr n28))
    replace w := s32.ok
    refine h_set ?_
    refine h_call ?_
    refine h_cons ?_
    refine h_var rfl ?_
    refine h_cons ?_
    refine h_c ?_
    refine h_nil ?_
    refine ⟨B30, v_script, a_script, 2, w, rfl, ((r_script.step st).w sub0), (P.bind).mono (fun x35 P => ?_) (fun _ z => z)⟩
    refine fun p41 B36 H37 s38 hn42 m43 => ?_
    have n45 := st.nn hn42
    replace r17 := r17.mono s38.ex
    replace r34 := r34.mono s38.ex
    replace st := st.go s38 go0
    replace w := s38.ok
    refine h_set ?_
    refine h_lst ?_
    refine h_cons ?_
    refine h_call ?_
    refine h_cons ?_
    refine h_var rfl ?_
    refine h_cons ?_
    refine h_c ?_
    refine h_cons ?_
    refine h_c ?_
    refine h_nil ?_
    refine ⟨B36, p41, x35, 0, 255, w, rfl, m43, (P.bind).mono (fun x46 P => ?_) (fun _ z => z)⟩
    refine fun v50 B47 H48 s49 m43 r51 => ?_
    replace r17 := r17.mono s49.ex
    replace r34 := r34.mono s49.ex
    replace st := st.go s49 (go1 (.inr n45))
    replace w := s49.ok
    cases r51
    refine h_cons ?_
    refine h_call ?_
    refine h_cons ?_
    refine h_var rfl ?_
    refine h_cons ?_
    refine h_c ?_
    refine h_cons ?_
    refine h_c ?_
    refine h_nil ?_
    refine ⟨B47, p41, x46.2, 0, 255, w, rfl, m43, (P.bind).mono (fun x52 P => ?_) (fun _ z => z)⟩
    refine fun v56 B53 H54 s55 m43 r57 => ?_
    replace r17 := r17.mono s55.ex
    replace r34 := r34.mono s55.ex
    replace st := st.go s55 (go1 (.inr n45))
    replace w := s55.ok
    cases r57
    refine h_nil ?_
    refine h_newL w (ds := (([x46.1, x52.1] : List Int)).map enc) (K := K) (.cons (Rep.int _) (.cons (Rep.int _) .nil)) (fun p58 B59 H60 s61 r62 => ?_) (by show 2 ≤ sizeLine; decide)
    replace r17 := r17.mono s61.ex
    replace r34 := r34.mono s61.ex
    replace m43 := m43.step s61 nm0
    replace st := st.go s61 go0
    replace w := s61.ok
    replace r62 : Rep K B59 (.ref p58) (enc ([x46.1, x52.1] : List Int)) := r62
    refine h_set ?_
    refine h_lst ?_
    refine h_cons ?_
    refine h_call ?_
    refine h_cons ?_
    refine h_var rfl ?_
    refine h_cons ?_
    refine h_c ?_
    refine h_cons ?_
    refine h_c ?_
    refine h_nil ?_
    refine ⟨B59, p41, x52.2, 0, 255, w, rfl, m43, (P.bind).mono (fun x63 P => ?_) (fun _ z => z)⟩
    refine fun v67 B64 H65 s66 m43 r68 => ?_
    replace r17 := r17.mono s66.ex
    replace r34 := r34.mono s66.ex
    replace r62 := r62.mono s66.ex
    replace st := st.go s66 (go1 (.inr n45))
    replace w := s66.ok
    cases r68
    refine h_cons ?_
    refine h_call ?_
    refine h_cons ?_
    refine h_var rfl ?_
    refine h_cons ?_
    refine h_c ?_
    refine h_cons ?_
    refine h_c ?_
    refine h_nil ?_
    refine ⟨B64, p41, x63.2, 0, 255, w, rfl, m43, (P.bind).mono (fun x69 P => ?_) (fun _ z => z)⟩
    refine fun v73 B70 H71 s72 m43 r74 => ?_
    replace r17 := r17.mono s72.ex
    replace r34 := r34.mono s72.ex
    replace r62 := r62.mono s72.ex
    replace st := st.go s72 (go1 (.inr n45))
    replace w := s72.ok
    cases r74
    refine h_nil ?_
    refine h_newL w (ds := (([x63.1, x69.1] : List Int)).map enc) (K := K) (.cons (Rep.int _) (.cons (Rep.int _) .nil)) (fun p75 B76 H77 s78 r79 => ?_) (by show 2 ≤ sizeLine; decide)
    replace r17 := r17.mono s78.ex
    replace r34 := r34.mono s78.ex
    replace m43 := m43.step s78 nm0
    replace r62 := r62.mono s78.ex
    replace st := st.go s78 go0
    replace w := s78.ok
    replace r79 : Rep K B76 (.ref p75) (enc ([x63.1, x69.1] : List Int)) := r79
    refine h_set ?_
    refine h_call ?_
    refine h_cons ?_
    refine h_var rfl ?_
    refine h_nil ?_
    refine ⟨B76, v16, x12.1, w, rfl, r17, (P.bind.noErr).mono (fun x80 P => ?_) (fun _ z => z.elim)⟩
    refine fun v84 B81 H82 s83 r85 => ?_
    replace r17 := r17.mono s83.ex
    replace r34 := r34.mono s83.ex
    replace m43 := m43.step s83 nm0
    replace r62 := r62.mono s83.ex
    replace r79 := r79.mono s83.ex
    replace st := st.go s83 go0
    replace w := s83.ok
    refine h_seq <| h_if ?_
    refine h_tnot ?_
    refine h_tB ?_
    refine h_call ?_
    refine h_cons ?_
    refine h_var rfl ?_
    refine h_cons ?_
    refine h_var rfl ?_
    refine h_cons ?_
    refine h_var rfl ?_
    refine h_nil ?_
    refine ⟨B81, v84, x80, v16, x12.1, (.ref p58), ([x46.1, x52.1] : List Int), w, rfl, r85, r17, r62, (P.bind).mono (fun x86 P => ?_) (fun _ z => z)⟩
    refine fun v90 B87 H88 s89 r91 => ?_
    replace r17 := r17.mono s89.ex
    replace r34 := r34.mono s89.ex
    replace m43 := m43.step s89 nm0
    replace r62 := r62.mono s89.ex
    replace r79 := r79.mono s89.ex
    replace r85 := r85.mono s89.ex
    replace st := st.go s89 go0
    replace w := s89.ok
    cases r91
    refine h_bl ?_
    refine h_iteN (fun c1 => ?_) (fun c1 => ?_)
    · replace P := P.iteF c1
      refine h_ret ?_
      refine h_c ?_
      exact P.ok _ _ _ st (Rep.bl _)
    · replace P := P.iteT c1
      refine h_next ?_
      refine h_nx ?_
      refine h_set ?_
      refine h_call ?_
      refine h_cons ?_
      refine h_var rfl ?_
      refine h_nil ?_
      refine ⟨B87, v33, x29.1, w, rfl, r34, (P.bind.noErr).mono (fun x92 P => ?_) (fun _ z => z.elim)⟩
      refine fun v96 B93 H94 s95 r97 => ?_
      replace r17 := r17.mono s95.ex
      replace r34 := r34.mono s95.ex
      replace m43 := m43.step s95 nm0
      replace r62 := r62.mono s95.ex
      replace r79 := r79.mono s95.ex
      replace r85 := r85.mono s95.ex
      replace st := st.go s95 go0
      replace w := s95.ok
      refine h_seq <| h_if ?_
      refine h_tor ?_
      refine h_tnot ?_
      refine h_tB ?_
      refine h_call ?_
      refine h_cons ?_
      refine h_var rfl ?_
      refine h_cons ?_
      refine h_var rfl ?_
      refine h_cons ?_
      refine h_var rfl ?_
      refine h_nil ?_
      refine ⟨B93, v96, x92, v33, x29.1, (.ref p75), ([x63.1, x69.1] : List Int), w, rfl, r97, r34, r79, (P.bind).mono (fun x98 P => ?_) (fun _ z => z)⟩
      refine fun v102 B99 H100 s101 r103 => ?_
      replace r17 := r17.mono s101.ex
      replace r34 := r34.mono s101.ex
      replace m43 := m43.step s101 nm0
      replace r62 := r62.mono s101.ex
      replace r79 := r79.mono s101.ex
      replace r85 := r85.mono s101.ex
      replace r97 := r97.mono s101.ex
      replace st := st.go s101 go0
      replace w := s101.ok
      cases r103
      refine h_bl ?_
      refine h_iteN (fun c1 => ?_) (fun c1 => ?_)
      · replace P := P.iteF c1
        refine h_iteT ?_
        refine h_ret ?_
        refine h_c ?_
        exact P.ok _ _ _ st (Rep.bl _)
      · replace P := P.iteT c1
        refine h_tnot ?_
        refine h_tB ?_
        refine h_call ?_
        refine h_cons ?_
        refine h_var rfl ?_
        refine h_cons ?_
        refine h_var rfl ?_
        refine h_cons ?_
        refine h_var rfl ?_
        refine h_nil ?_
        refine ⟨B99, v84, x80, v16, x12.1, (.ref p75), ([x63.1, x69.1] : List Int), w, rfl, r85, r17, r79, (P.bind).mono (fun x104 P => ?_) (fun _ z => z)⟩
        refine fun v108 B105 H106 s107 r109 => ?_
        replace r17 := r17.mono s107.ex
        replace r34 := r34.mono s107.ex
        replace m43 := m43.step s107 nm0
        replace r62 := r62.mono s107.ex
        replace r79 := r79.mono s107.ex
        replace r85 := r85.mono s107.ex
        replace r97 := r97.mono s107.ex
        replace st := st.go s107 go0
        replace w := s107.ok
        cases r109
        refine h_bl ?_
        refine h_iteN (fun c1 => ?_) (fun c1 => ?_)
        · replace P := P.iteF c1
          refine h_ret ?_
          refine h_c ?_
          exact P.ok _ _ _ st (Rep.bl _)
        · replace P := P.iteT c1
          refine h_next ?_
          refine h_nx ?_
          refine h_ret ?_
          refine h_and ?_
          refine h_call ?_
          refine h_cons ?_
          refine h_call ?_
          refine h_cons ?_
          refine h_var rfl ?_
          refine h_nil ?_
          refine ⟨B105, v16, x12.1, w, rfl, r17, (P.bind).mono (fun x110 P => ?_) (fun _ z => z)⟩
          refine fun v114 B111 H112 s113 r115 => ?_
          replace r17 := r17.mono s113.ex
          replace r34 := r34.mono s113.ex
          replace m43 := m43.step s113 nm0
          replace r62 := r62.mono s113.ex
          replace r79 := r79.mono s113.ex
          replace r85 := r85.mono s113.ex
          replace r97 := r97.mono s113.ex
          replace st := st.go s113 go0
          replace w := s113.ok
          refine h_cons ?_
          refine h_var rfl ?_
          refine h_cons ?_
          refine h_var rfl ?_
          refine h_nil ?_
          refine ⟨B111, v114, x110, v16, x12.1, (.ref p58), ([x46.1, x52.1] : List Int), w, rfl, r115, r17, r62, (P.bind).mono (fun x116 P => ?_) (fun _ z => z)⟩
          refine fun v120 B117 H118 s119 r121 => ?_
          replace r17 := r17.mono s119.ex
          replace r34 := r34.mono s119.ex
          replace m43 := m43.step s119 nm0
          replace r62 := r62.mono s119.ex
          replace r79 := r79.mono s119.ex
          replace r85 := r85.mono s119.ex
          replace r97 := r97.mono s119.ex
          replace r115 := r115.mono s119.ex
          replace st := st.go s119 go0
          replace w := s119.ok
          cases r121
          refine h_bl ?_
          refine h_ite (fun c1 => ?_) (fun c1 => ?_)
          · replace P := P.iteT c1
            refine h_call ?_
            refine h_cons ?_
            refine h_callK0 ?_
            refine h_cons ?_
            refine h_var rfl ?_
            refine h_nil ?_
            refine ⟨B117, v16, x12.1, w, rfl, r17, (P.bind.noErr).mono (fun x122 P => ?_) (fun _ z => z.elim)⟩
            refine fun v126 B123 H124 s125 r127 => ?_
            replace r17 := r17.mono s125.ex
            replace r34 := r34.mono s125.ex
            replace m43 := m43.step s125 nm0
            replace r62 := r62.mono s125.ex
            replace r79 := r79.mono s125.ex
            replace r85 := r85.mono s125.ex
            replace r97 := r97.mono s125.ex
            replace st := st.go s125 go0
            replace w := s125.ok
            refine h_cons ?_
            refine h_var rfl ?_
            refine h_cons ?_
            refine h_var rfl ?_
            refine h_nil ?_
            refine ⟨B123, v126, x122, v16, x12.1, (.ref p58), ([x46.1, x52.1] : List Int), w, rfl, r127, r17, r62, (P.bind).mono (fun x128 P => ?_) (fun _ z => z)⟩
            refine fun v132 B129 H130 s131 r133 => ?_
            replace r17 := r17.mono s131.ex
            replace r34 := r34.mono s131.ex
            replace m43 := m43.step s131 nm0
            replace r62 := r62.mono s131.ex
            replace r79 := r79.mono s131.ex
            replace r85 := r85.mono s131.ex
            replace r97 := r97.mono s131.ex
            replace r127 := r127.mono s131.ex
            replace st := st.go s131 go0
            replace w := s131.ok
            cases r133
            exact P.ok _ _ _ st (Rep.bl _)
          · replace P := P.iteF c1
            exact P.ok _ _ _ st (Rep.bl _)
end
end A
set_option Elab.async false
set_option linter.all false
set_option maxRecDepth 100000
set_option maxHeartbeats 2000000
namespace Y
open PySem PySem.Spec PyProof.Rows L2
open Enc (enc)
/-! # plain mathematics over mirrors -/
/-- m gives a value, and φ of it -/
def Ok {α : Type} (m : Res α) (φ : α → Prop) : Prop := ∃ a, m = .ok a ∧ φ a
section
variable {α β : Type} {m : Res α} {φ φ' : α → Prop} {k : α → Res β} {ψ : β → Prop} {a : α} {c : Bool} {i : Int} {l : List α}
theorem Ok.pure (h : φ a) : Ok (.ok a) φ := ⟨a, rfl, h⟩
theorem Ok.bind (h : Ok m φ) (hk : ∀ a, φ a → Ok (k a) ψ) : Ok (m.bind k) ψ := by
  obtain ⟨a, e, p⟩ := h
  rw [e]
  exact hk a p
theorem Ok.bindE (e : m = .ok a) (h : Ok (k a) ψ) : Ok (m.bind k) ψ := by rw [e]; exact h
theorem Ok.mono (h : Ok m φ) (hk : ∀ a, φ a → φ' a) : Ok m φ' := by
  obtain ⟨a, e, p⟩ := h
  exact ⟨a, e, hk a p⟩
theorem Ok.ite {m m' : Res α} (h1 : c = true → Ok m φ) (h2 : c = false → Ok m' φ) : Ok (if c = true then m else m') φ := by
  cases c
  · rw [if_neg Bool.false_ne_true]; exact h2 rfl
  · rw [if_pos rfl]; exact h1 rfl
theorem Ok.iteT {m m' : Res α} (hc : c = true) (h : Ok m φ) : Ok (if c = true then m else m') φ := by
  rw [if_pos hc]; exact h
theorem Ok.iteF {m m' : Res α} (hc : c = false) (h : Ok m' φ) : Ok (if c = true then m else m') φ := by
  rw [hc, if_neg Bool.false_ne_true]; exact h
theorem Ok.guard {p : Prop} [Decidable p] (hp : p) (h : Ok m φ) : Ok (guardR p m) φ := by
  unfold guardR; rw [if_pos hp]; exact h
theorem Ok.lt {d : α} (h : Ok (k d) ψ) : Ok (Y.lt d k) ψ := h
theorem Ok.noErr (h : Ok m φ) : Ok m.noErr φ := by
  obtain ⟨a, e, p⟩ := h
  exact ⟨a, by rw [e]; rfl, p⟩
theorem atI_in (h0 : 0 ≤ i) (h1 : i < (l.length : Int)) : ∃ x, atI l i = some x ∧ l[i.toNat]? = some x ∧ x ∈ l := by
  have h2 : i.toNat < l.length := by omega
  have e : ixN l.length i = some i.toNat := by unfold ixN; rw [if_pos h0, if_pos h1]
  refine ⟨l[i.toNat], ?_, List.getElem?_eq_getElem h2, List.getElem_mem h2⟩
  unfold atI
  rw [e]
  exact List.getElem?_eq_getElem h2
theorem Ok.ix (h0 : 0 ≤ i) (h1 : i < (l.length : Int)) (h : ∀ x, x ∈ l → l[i.toNat]? = some x → Ok (k x) ψ) : Ok ((ixR l i).bind k) ψ := by
  obtain ⟨x, e, e2, m⟩ := atI_in h0 h1
  unfold ixR
  rw [e]
  exact h x m e2
theorem Ok.ixs {x : α} (e : ixR l i = .ok x) (h : Ok (k x) ψ) : Ok ((ixR l i).bind k) ψ := by rw [e]; exact h
/-- an item of a written list -/
theorem Ok.ixm (h0 : 0 ≤ i) (h1 : i < (l.length : Int)) (h : ∀ x, x ∈ l → Ok (k x) ψ) : Ok ((ixR l i).bind k) ψ := Ok.ix h0 h1 fun x m _ => h x m
/-- a loop that keeps I and ends by itself -/
theorem Ok.for {S R : Type} {f : α → S → Res (Fl S R)} (I : S → Prop) (hf : ∀ x s, x ∈ l → I s → Ok (f x s) fun r => ∃ s', r = .nx s' ∧ I s') : ∀ {s : S}, I s → Ok (forR l s f) fun r => ∃ s', r = .nx s' ∧ I s' := by
  induction l with
  | nil => intro s h; exact ⟨_, rfl, s, rfl, h⟩
  | cons x xs ih =>
    intro s h
    refine Ok.bind (hf x s List.mem_cons_self h) ?_
    rintro r ⟨s', rfl, h'⟩
    exact ih (fun y s m h => hf y s (List.mem_cons_of_mem _ m) h) h'
/-- a comprehension: each turn gives a good thing and keeps I -/
theorem Ok.compL {S R : Type} {f : α → S → Res (Option R × S)} (I : S → Prop) (G : R → Prop) (hf : ∀ x s, x ∈ l → I s → Ok (f x s) fun r => I r.2 ∧ ∀ b, r.1 = some b → G b) : ∀ {s : S}, I s → Ok (compL l s f) fun r => I r.2 ∧ ∀ b ∈ r.1, G b := by
  induction l with
  | nil => intro s h; exact ⟨_, rfl, h, fun _ m => nomatch m⟩
  | cons x xs ih =>
    intro s h
    refine Ok.bind (hf x s List.mem_cons_self h) ?_
    rintro ⟨o, s'⟩ ⟨h', g⟩
    refine Ok.bind (ih (fun y s m h => hf y s (List.mem_cons_of_mem _ m) h) h') ?_
    rintro ⟨bs, s2⟩ ⟨h2, g2⟩
    refine ⟨_, rfl, h2, fun b m => ?_⟩
    cases o with
    | none => exact g2 b m
    | some b0 =>
      rcases List.mem_cons.mp m with e | m
      · rw [e]; exact g b0 rfl
      · exact g2 b m
theorem Ok.comp {S R : Type} {f : α → S → Res (Option R × S)} {s : S} (hl : l.length ≤ 1000000) (I : S → Prop) (G : R → Prop) (hf : ∀ x s, x ∈ l → I s → Ok (f x s) fun r => I r.2 ∧ ∀ b, r.1 = some b → G b) (h : I s) : Ok (compR l s f) fun r => I r.2 ∧ ∀ b ∈ r.1, G b := Ok.guard hl (Ok.compL I G hf h)
/-- .. and no more things than turns -/
theorem Ok.compLen {S R : Type} {f : α → S → Res (Option R × S)} {s : S} (hl : l.length ≤ 1000000) (I : S → Prop) (G : R → Prop) (hf : ∀ x s, x ∈ l → I s → Ok (f x s) fun r => I r.2 ∧ ∀ b, r.1 = some b → G b) (h : I s) : Ok (compR l s f) fun r => I r.2 ∧ (∀ b ∈ r.1, G b) ∧ r.1.length ≤ l.length := by
  refine Ok.guard hl ?_
  clear hl
  induction l generalizing s with
  | nil => exact ⟨_, rfl, h, (fun _ m => nomatch m), Nat.le_refl _⟩
  | cons x xs ih =>
    refine Ok.bind (hf x s List.mem_cons_self h) ?_
    rintro ⟨o, s'⟩ ⟨h', g⟩
    refine Ok.bind (ih (fun y s m h => hf y s (List.mem_cons_of_mem _ m) h) h') ?_
    rintro ⟨bs, s2⟩ ⟨h2, g2, g3⟩
    refine ⟨_, rfl, h2, fun b m => ?_, ?_⟩
    · cases o with
      | none => exact g2 b m
      | some b0 =>
        rcases List.mem_cons.mp m with e | m
        · rw [e]; exact g b0 rfl
        · exact g2 b m
    · cases o with
      | none => exact Nat.le_succ_of_le g3
      | some b0 => exact Nat.succ_le_succ g3
end
theorem log2_small {n b : Nat} (h : n < 2 ^ b) (h0 : 0 < b) : n.log2 < b := PySem.Flt.log2_lt_of h0 h
theorem mulW {i j : Int} {a b : Nat} (ha : i.natAbs < 2 ^ a) (hb : j.natAbs < 2 ^ b) (h0 : 0 < a := by decide) (h1 : 0 < b := by decide) (h : a + b ≤ 1000000 := by decide) : CMulW i j := wide_mul ha hb h0 h1 h
theorem divW {i j : Int} {b : Nat} (h : 0 < j) (hb : j.natAbs < 2 ^ b) (h0 : 0 < b := by decide) (h9 : b ≤ 9000 := by decide) : CDivW i j := wide_div h hb h0 h9
theorem cutL_mem {α : Type} {l : List α} {lo hi : Option Int} {x : α} (h : x ∈ cutL l lo hi) : x ∈ l := List.mem_of_mem_drop (List.mem_of_mem_take h)
theorem cutL_len {α : Type} {l : List α} {lo hi : Option Int} : (cutL l lo hi).length ≤ l.length := by
  unfold cutL
  rw [List.length_take, List.length_drop]
  omega
mutual
theorem eqv_refl : ∀ d : D, flatD d = true → PyData.eqv (pyD d) (pyD d) = true
  | .non, _ => rfl
  | .bl b, _ => by show (b == b) = true; simp
  | .int i, _ => by show (i == i) = true; simp
  | .str x, _ => by show (x == x) = true; simp
  | .lst ds, h => eqvs_refl ds h
  | .tup ds, h => eqvs_refl ds h
  | .dic _, h => nomatch h
  | .obj _ _, h => nomatch h
theorem eqvs_refl : ∀ ds : List D, flatDs ds = true → PyData.eqvAll (pyDs ds) (pyDs ds) = true
  | [], _ => rfl
  | d :: ds, h => by
    have h' : (flatD d && flatDs ds) = true := h
    rw [Bool.and_eq_true] at h'
    show (PyData.eqv (pyD d) (pyD d) && PyData.eqvAll (pyDs ds) (pyDs ds)) = true
    rw [eqv_refl d h'.1, eqvs_refl ds h'.2]
    rfl
end
theorem eqD_refl {d : D} (h : flatD d = true) : eqD d d = true := eqv_refl d h
theorem flat_ints : ∀ l : List Int, flatDs (l.map enc) = true
  | [] => rfl
  | i :: l => by show (flatD (.int i) && flatDs (l.map enc)) = true; rw [flat_ints l]; rfl

mutual
/-- data that may be compared: no dict, texts plain, not deep -/
def eqOk (n : Nat) : D → Bool
  | .lst ds => match n with | 0 => false | n + 1 => eqOks n ds
  | .tup ds => match n with | 0 => false | n + 1 => eqOks n ds
  | .dic _ => false
  | .obj _ _ => false
  | .str x => PyData.strOk x
  | _ => true
def eqOks (n : Nat) : List D → Bool
  | [] => true
  | d :: ds => eqOk n d && eqOks n ds
end
mutual
theorem eqOk_flat : ∀ (d : D) (n : Nat), eqOk n d = true → flatD d = true ∧ (pyD d).canLay0 = true ∧ (pyD d).depth ≤ n
  | .non, _, _ => ⟨rfl, rfl, Nat.zero_le _⟩
  | .bl _, _, _ => ⟨rfl, rfl, Nat.zero_le _⟩
  | .int _, _, _ => ⟨rfl, rfl, Nat.zero_le _⟩
  | .str _, _, h => ⟨rfl, h, Nat.zero_le _⟩
  | .lst ds, n + 1, h => let ⟨a, b, c⟩ := eqOks_flat ds n h; ⟨a, b, Nat.succ_le_succ c⟩
  | .tup ds, n + 1, h => let ⟨a, b, c⟩ := eqOks_flat ds n h; ⟨a, b, Nat.succ_le_succ c⟩
  | .lst _, 0, h => nomatch h
  | .tup _, 0, h => nomatch h
  | .dic _, _, h => nomatch h
  | .obj _ _, _, h => nomatch h
theorem eqOks_flat : ∀ (ds : List D) (n : Nat), eqOks n ds = true → flatDs ds = true ∧ PyData.canLayAll0 (pyDs ds) = true ∧ PyData.depthAll (pyDs ds) ≤ n
  | [], _, _ => ⟨rfl, rfl, Nat.zero_le _⟩
  | d :: ds, n, h => by
    have h' : (eqOk n d && eqOks n ds) = true := h
    rw [Bool.and_eq_true] at h'
    obtain ⟨a, b, c⟩ := eqOk_flat d n h'.1
    obtain ⟨a', b', c'⟩ := eqOks_flat ds n h'.2
    refine ⟨?_, ?_, ?_⟩
    · show (flatD d && flatDs ds) = true; rw [a, a']; rfl
    · show (PyData.canLay0 (pyD d) && PyData.canLayAll0 (pyDs ds)) = true; rw [b, b']; rfl
    · exact Nat.max_le.mpr ⟨c, c'⟩
end
theorem okEq_of {d e : D} (h : eqOk 20 d = true) (h' : eqOk 20 e = true) : okEq d e := by
  obtain ⟨a, b, c⟩ := eqOk_flat d 20 h
  obtain ⟨a', b', c'⟩ := eqOk_flat e 20 h'
  refine ⟨a, a', ?_, ?_⟩
  · unfold SeqAt.shaped; rw [b, decide_eq_true (Nat.le_trans c (by decide))]; rfl
  · unfold SeqAt.shaped; rw [b', decide_eq_true (Nat.le_trans c' (by decide))]; rfl
theorem eqOk_ints : ∀ (l : List Int) (n : Nat), eqOks n (l.map enc) = true
  | [], _ => rfl
  | i :: l, n => by show (eqOk n (.int i) && eqOks n (l.map enc)) = true; rw [eqOk_ints l n]; rfl
/-- a comprehension without a state whose turns give values -/
theorem compL_map {α β : Type} {f : α → Unit → Res (Option β × Unit)} {g : α → β} : ∀ {l : List α}, (∀ x ∈ l, f x () = .ok (some (g x), ())) → compL l () f = .ok (l.map g, ())
  | [], _ => rfl
  | x :: xs, h => by
    unfold compL
    rw [h x List.mem_cons_self]
    show ((compL xs () f).bind fun q => .ok (g x :: q.1, q.2)) = _
    rw [compL_map fun y m => h y (List.mem_cons_of_mem _ m)]
    rfl
theorem compR_map {α β : Type} {f : α → Unit → Res (Option β × Unit)} {g : α → β} {l : List α} (hl : l.length ≤ 1000000) (h : ∀ x ∈ l, f x () = .ok (some (g x), ())) : compR l () f = .ok (l.map g, ()) := by
  unfold compR guardR
  rw [if_pos hl, compL_map h]
def smallD (d : D) : Prop := match d with | .lst ds => ds.length ≤ 1000000 | _ => True
end Y

set_option Elab.async false
set_option linter.all false
set_option maxRecDepth 100000
set_option maxHeartbeats 2000000
namespace A
open PySem PySem.Spec PyProof.Rows L2 Y
open Y.Enc (enc)
/-! # draws from a well -/
theorem Ok.setW {α β : Type} {l : List α} {i : Int} {x : α} {k : List α → Res β} {ψ : β → Prop} (h0 : 0 ≤ i) (h1 : i < (l.length : Int)) (h : ∀ l', l'.length = l.length → Ok (k l') ψ) : Ok ((setR l i x).bind k) ψ := by
  have e : setR l i x = .ok (l.set i.toNat x) := by
    unfold setR
    have e : ixN l.length i = some i.toNat := by unfold ixN; rw [if_pos h0, if_pos h1]
    rw [e]
  rw [e]
  exact h _ (List.length_set ..)
theorem draw_ok {st : List Int} {b : Int} (hl : st.length = 3) (hb : 0 < b) (hb2 : b.natAbs < 2 ^ 4000) : Ok (l_draw st b) fun r => (0 ≤ r.1 ∧ r.1 < b) ∧ r.2.length = 3 := by
  unfold l_draw
  refine Ok.ix (by decide) (by omega) fun x _ _ => Ok.ite (fun c => ?_) (fun c => ?_)
  · refine Ok.ix (by decide) (by omega) fun y _ _ => Ok.guard hb (Ok.lt (Ok.ix (by decide) (by omega) fun z _ _ => Ok.guard (divW hb hb2) (Ok.setW (by decide) (by omega) fun l' e => Ok.pure ⟨⟨Int.emod_nonneg _ (Int.ne_of_gt hb), Int.emod_lt_of_pos _ hb⟩, e.trans hl⟩)))
  · refine Ok.ix (by decide) (by omega) fun y _ _ => Ok.setW (by decide) (by omega) fun l' e => Ok.ix (by decide) (by omega) fun z _ _ => Ok.ix (by decide) (by omega) fun u _ _ => Ok.lt ?_
    generalize hn : (((z + 7919 * u) + 1) * 48271) % 2147483647 = n
    have hn1 : 0 ≤ n ∧ n < 2147483647 := by subst hn; exact ⟨Int.emod_nonneg _ (by decide), Int.emod_lt_of_pos _ (by decide)⟩
    refine Ok.guard (mulW (a := 32) (b := 32) (by omega) (by omega)) (Ok.lt ?_)
    generalize hm : (n * (n / 1009 + 69621)) % 2147483647 = m
    have hm1 : 0 ≤ m ∧ m < 2147483647 := by subst hm; exact ⟨Int.emod_nonneg _ (by decide), Int.emod_lt_of_pos _ (by decide)⟩
    refine Ok.guard (mulW (a := 32) (b := 32) (by omega) (by omega)) (Ok.guard hb (Ok.pure ⟨⟨Int.emod_nonneg _ (Int.ne_of_gt hb), Int.emod_lt_of_pos _ hb⟩, e.trans hl⟩))
theorem dw {β : Type} {st : List Int} {b : Int} {k : Int × List Int → Res β} {ψ : β → Prop} (h : st.length = 3) (hb : 0 < b) (hb2 : b.natAbs < 18446744073709551616) (hk : ∀ x s, 0 ≤ x → x < b → s.length = 3 → Ok (k (x, s)) ψ) : Ok ((l_draw st b).bind k) ψ :=
  Ok.bind (draw_ok h hb (Nat.lt_of_lt_of_le (show b.natAbs < 2 ^ 64 from hb2) (Nat.pow_le_pow_right (by decide) (by decide)))) fun r p => hk r.1 r.2 p.1.1 p.1.2 p.2
theorem well_ok {ns : List Int} {k : Int} (h0 : 0 ≤ k) : Ok (l_well ns k) fun r => r.length = 3 := by
  unfold l_well
  refine Ok.bind (φ := fun _ => True) ?_ fun x _ => Ok.pure rfl
  unfold l_cell_at
  refine Ok.ite (fun c => Ok.ix h0 (of_decide_eq_true c) fun x _ _ => Ok.pure trivial) fun c => Ok.guard (okEq_of (eqOk_ints ns 19) rfl) (Ok.ite (fun _ => Ok.pure trivial) fun e => ?_)
  have hn : 0 < (ns.length : Int) := by
    cases ns with
    | nil => exact nomatch e
    | cons x l => show (0 : Int) < ((l.length + 1 : Nat) : Int); omega
  exact Ok.guard hn (Ok.ix (Int.emod_nonneg _ (Int.ne_of_gt hn)) (Int.emod_lt_of_pos _ hn) fun x _ _ => Ok.pure trivial)
end A

set_option Elab.async false
set_option linter.all false
set_option maxRecDepth 100000
set_option maxHeartbeats 2000000
namespace A
open PySem PySem.Spec PyProof.Rows L2 Y
open Y.Enc (enc)
/-- it is this text -/
def isStr (d : D) (s : Str) : Bool := match d with | .str t => decide (t = s) | _ => false
theorem eqStr (d : D) (s : Str) : eqD d (enc s) = isStr d s := by
  cases d <;> rfl
theorem stepEq {α : Type} {d : D} {s : Str} {X Y : Res α} (h : eqOk 20 d = true) (hs : PyData.strOk s = true) : (guardR (okEq d (enc s)) (if (eqD d (enc s)) = true then X else Y)) = if isStr d s = true then X else Y := by
  unfold guardR
  rw [if_pos (okEq_of h (show eqOk 20 (enc s) = true from hs)), eqStr]
theorem stepNe {α : Type} {d : D} {s : Str} {X Y : Res α} (h : eqOk 20 d = true) (hs : PyData.strOk s = true) : (guardR (okEq d (enc s)) (if (!(eqD d (enc s))) = true then X else Y)) = if isStr d s = true then Y else X := by
  unfold guardR
  rw [if_pos (okEq_of h (show eqOk 20 (enc s) = true from hs)), eqStr]
  cases isStr d s <;> rfl
theorem stepN {d : D} {s : Str} (h : eqOk 20 d = true) (hs : PyData.strOk s = true) : (guardR (okEq d (enc s)) (.ok (!(eqD d (enc s)))) : Res Bool) = .ok (!(isStr d s)) := by
  unfold guardR
  rw [if_pos (okEq_of h (show eqOk 20 (enc s) = true from hs)), eqStr]
theorem sp1 : PyData.strOk "plain" = true := by decide +kernel
theorem sp2 : PyData.strOk "moved" = true := by decide +kernel
theorem sp3 : PyData.strOk "mixed" = true := by decide +kernel
def toI (d : D) : Int := match d with | .int i => i | _ => 0
theorem whole_int {d : D} {lo hi : Int} (h : isWhole d lo hi = true) : d = .int (toI d) := by
  cases d with
  | int i => rfl
  | _ => exact nomatch h
def refE (o : Option K_Rule) : Res K_Rule := match o with | some r => .ok r | none => .err ⟨"NoRule", []⟩
theorem need_m (a b : D) : m_is_need a b = .ok (isWhole a 1 200 && isWhole b 0 15) := by
  unfold m_is_need
  show Res.bind (Res.ok (isWhole a 1 200)) _ = _
  cases isWhole a 1 200 <;> rfl
theorem str_apart {d : D} {s t : Str} (h : isStr d s = true) (hn : s ≠ t) : isStr d t = false := by
  cases d with
  | str x =>
    have e : x = s := of_decide_eq_true h
    exact decide_eq_false fun q => hn (e.symm.trans q)
  | _ => rfl
theorem pm : ("plain" : Str) ≠ "moved" := by decide +kernel
theorem px : ("plain" : Str) ≠ "mixed" := by decide +kernel
theorem mx : ("moved" : Str) ≠ "mixed" := by decide +kernel
section
variable {α β : Type} {m m' x : Res α}
theorem Is.bind {m : Res β} {k : β → Res α} {a : β} (e : m = .ok a) (h : k a = x) : m.bind k = x := by rw [e]; exact h
theorem Is.iteT {c : Bool} (hc : c = true) (h : m = x) : (if c = true then m else m') = x := by rw [if_pos hc]; exact h
theorem Is.iteF {c : Bool} (hc : c = false) (h : m' = x) : (if c = true then m else m') = x := by rw [hc]; exact h
theorem Is.ite {c : Bool} (h1 : c = true → m = x) (h2 : c = false → m' = x) : (if c = true then m else m') = x := by
  cases c
  · exact h2 rfl
  · exact h1 rfl
end
theorem ixg {l : List D} (k : Nat) (h : k < l.length) : ixR l (k : Int) = .ok (l.getD k .non) := by
  unfold ixR atI ixN
  rw [if_pos (by omega), if_pos (by omega), Int.toNat_natCast]
  simp [List.getElem?_eq_getElem h]
abbrev q1 (l : List D) : D := l.getD 1 .non
abbrev q2 (l : List D) : D := l.getD 2 .non
abbrev q3 (l : List D) : D := l.getD 3 .non
abbrev q4 (l : List D) : D := l.getD 4 .non
def cP (l : List D) : Bool := isStr (l.getD 0 .non) "plain" && (decide ((l.length : Int) = 2) && isWhole (q1 l) 0 255)
def cN (l : List D) : Bool := isStr (l.getD 0 .non) "moved" && (decide ((l.length : Int) = 4) && (isWhole (q1 l) 1 200 && isWhole (q2 l) 0 15))
def cX (l : List D) : Bool := isStr (l.getD 0 .non) "mixed" && decide ((l.length : Int) = 5)
def cY (l : List D) : Bool := (isWhole (q1 l) 1 200 && isWhole (q2 l) 0 15) && (isWhole (q3 l) 1 200 && isWhole (q4 l) 0 15)
/-- the rule that is told so -/
def ruleL (l : List D) : Option K_Rule :=
  if cP l = true then some (.Plain (toI (q1 l))) else if (cN l && isWhole (q3 l) 0 255) = true then some (.Moved (toI (q1 l)) (toI (q2 l)) (toI (q3 l))) else
  if (cX l && cY l) = true then some (.Mixed (toI (q1 l)) (toI (q2 l)) (toI (q3 l)) (toI (q4 l))) else none
theorem as_int {d : D} {lo hi : Int} (h : isWhole d lo hi = true) : asI d = .ok (toI d) := by rw [whole_int h]; rfl
theorem rule_m {l : List D} (h : ∀ x ∈ l, eqOk 20 x = true) : m_rule_of (.tup l) = refE (ruleL l) := by
  cases l with
  | nil => rfl
  | cons w r =>
    have hw := h w List.mem_cons_self
    unfold m_rule_of
    refine Is.iteT (by decide +kernel : isS "tuple" "tuple" = true) (Is.bind (a := w :: r) rfl (Is.iteF (by simp; omega) ?_))
    have e0 : (w :: r).getD 0 .non = w := rfl
    generalize hl : w :: r = l at *
    have i0 : ixR l 0 = .ok w := by
      have := ixg (l := l) 0 (by rw [← hl]; simp)
      rw [e0] at this
      exact this
    refine Is.bind (a := cP l) ?_ ?_
    · refine Is.bind (a := l) rfl (Is.bind i0 ?_)
      rw [stepEq hw sp1]
      unfold cP
      rw [e0]
      refine Is.ite (fun c => ?_) fun c => by rw [c]; rfl
      rw [c]
      refine Is.bind (a := l) rfl (Is.ite (fun d => ?_) fun d => by rw [d]; rfl)
      rw [d]
      have := of_decide_eq_true d
      exact Is.bind (a := l) rfl (Is.bind (ixg 1 (by omega)) rfl)
    unfold ruleL
    refine Is.ite (fun c => ?_) fun c => ?_
    · rw [c]
      unfold cP at c
      simp only [Bool.and_eq_true, decide_eq_true_eq] at c
      exact Is.bind (a := l) rfl (Is.bind (ixg 1 (by omega)) (Is.bind (as_int c.2.2) rfl))
    rw [c]
    refine Is.bind (a := (if (cN l && isWhole (q3 l) 0 255) = true then Fl.rt (K_Rule.Moved (toI (q1 l)) (toI (q2 l)) (toI (q3 l))) else Fl.nx () : Fl Unit K_Rule)) ?_ ?_
    · refine Is.bind (a := cN l) ?_ ?_
      · refine Is.bind (a := l) rfl (Is.bind i0 ?_)
        rw [stepEq hw sp2]
        unfold cN
        rw [e0]
        refine Is.ite (fun c => ?_) fun c => by rw [c]; rfl
        rw [c]
        refine Is.bind (a := l) rfl (Is.ite (fun d => ?_) fun d => by rw [d]; rfl)
        rw [d]
        have := of_decide_eq_true d
        exact Is.bind (a := l) rfl (Is.bind (ixg 1 (by omega)) (Is.bind (a := l) rfl (Is.bind (ixg 2 (by omega)) (Is.bind (by rw [need_m]; rfl) rfl))))
      · refine Is.ite (fun c => ?_) fun c => by rw [c]; rfl
        rw [c]
        unfold cN at c
        simp only [Bool.and_eq_true, decide_eq_true_eq] at c
        refine Is.bind (a := l) rfl (Is.bind (ixg 3 (by omega)) (Is.bind (a := isWhole (q3 l) 0 255) rfl (Is.ite (fun d => ?_) fun d => by rw [show isWhole (q3 l) 0 255 = false from d]; rfl)))
        rw [show isWhole (q3 l) 0 255 = true from d]
        exact Is.bind (a := l) rfl (Is.bind (ixg 1 (by omega)) (Is.bind (a := l) rfl (Is.bind (ixg 2 (by omega)) (Is.bind (a := l) rfl (Is.bind (ixg 3 (by omega)) (Is.bind (as_int c.2.2.1) (Is.bind (as_int c.2.2.2) (Is.bind (as_int d) rfl))))))))
    cases cN l && isWhole (q3 l) 0 255 with
    | true => rfl
    | false =>
    show Res.bind _ _ = _
    refine Is.bind (a := (if (cX l && cY l) = true then Fl.rt (K_Rule.Mixed (toI (q1 l)) (toI (q2 l)) (toI (q3 l)) (toI (q4 l))) else Fl.nx () : Fl Unit K_Rule)) ?_ ?_
    · refine Is.bind (a := cX l) ?_ ?_
      · refine Is.bind (a := l) rfl (Is.bind i0 ?_)
        rw [stepEq hw sp3]
        unfold cX
        rw [e0]
        refine Is.ite (fun c => ?_) fun c => by rw [c]; rfl
        rw [c]
        exact Is.bind (a := l) rfl rfl
      · refine Is.ite (fun c => ?_) fun c => by rw [c]; rfl
        rw [c]
        unfold cX at c
        simp only [Bool.and_eq_true, decide_eq_true_eq] at c
        have b1 := ixg (l := l) 1 (by omega)
        have b2 := ixg (l := l) 2 (by omega)
        have b3 := ixg (l := l) 3 (by omega)
        have b4 := ixg (l := l) 4 (by omega)
        refine Is.bind (a := cY l) ?_ ?_
        · refine Is.bind (a := l) rfl (Is.bind b1 (Is.bind (a := l) rfl (Is.bind b2 (Is.bind (by rw [need_m]; rfl) ?_))))
          unfold cY
          refine Is.ite (fun d => ?_) fun d => by rw [show (isWhole (q1 l) 1 200 && isWhole (q2 l) 0 15) = false from d]; rfl
          rw [show (isWhole (q1 l) 1 200 && isWhole (q2 l) 0 15) = true from d]
          exact Is.bind (a := l) rfl (Is.bind b3 (Is.bind (a := l) rfl (Is.bind b4 (Is.bind (by rw [need_m]; rfl) rfl))))
        · refine Is.ite (fun d => ?_) fun d => by rw [d]; rfl
          rw [d]
          unfold cY at d
          simp only [Bool.and_eq_true] at d
          exact Is.bind (a := l) rfl (Is.bind b1 (Is.bind (a := l) rfl (Is.bind b2 (Is.bind (a := l) rfl (Is.bind b3 (Is.bind (a := l) rfl (Is.bind b4 (Is.bind (as_int d.1.1) (Is.bind (as_int d.1.2) (Is.bind (as_int d.2.1) (Is.bind (as_int d.2.2) rfl)))))))))))
    cases cX l && cY l <;> rfl
end A

set_option Elab.async false
set_option linter.all false
set_option maxRecDepth 100000
set_option maxHeartbeats 2000000
namespace A
open PySem PySem.Spec PyProof.Rows L2 Y
open Y.Enc (enc)
/-! # rules as rows -/
def rowU : K_Rule → List D
  | .Plain w => [.str "plain", .int w]
  | .Moved b c a => [.str "moved", .int b, .int c, .int a]
  | .Mixed b c d e => [.str "mixed", .int b, .int c, .int d, .int e]
abbrev rowD (r : K_Rule) : D := .tup (rowU r)
def In (lo hi i : Int) : Prop := lo ≤ i ∧ i ≤ hi
def Gr : K_Rule → Prop
  | .Plain w => In 0 255 w
  | .Moved b c a => In 1 200 b ∧ In 0 15 c ∧ In 0 255 a
  | .Mixed b c d e => In 1 200 b ∧ In 0 15 c ∧ In 1 200 d ∧ In 0 15 e
theorem wh {lo hi i : Int} (h : In lo hi i) : isWhole (.int i) lo hi = true := by
  show (decide (lo ≤ i) && decide (i ≤ hi)) = true
  rw [decide_eq_true h.1, decide_eq_true h.2]
  rfl
theorem eqPP : isStr (.str "plain") "plain" = true := by decide +kernel
theorem eqMM : isStr (.str "moved") "moved" = true := by decide +kernel
theorem eqXX : isStr (.str "mixed") "mixed" = true := by decide +kernel
theorem eqMP : isStr (.str "moved") "plain" = false := by decide +kernel
theorem eqXP : isStr (.str "mixed") "plain" = false := by decide +kernel
theorem eqXM : isStr (.str "mixed") "moved" = false := by decide +kernel
theorem rowOk (r : K_Rule) : ∀ x ∈ rowU r, eqOk 20 x = true := by
  have e1 : eqOk 20 (.str "plain") = true := sp1
  have e2 : eqOk 20 (.str "moved") = true := sp2
  have e3 : eqOk 20 (.str "mixed") = true := sp3
  have ei : ∀ i : Int, eqOk 20 (.int i) = true := fun _ => rfl
  cases r <;> simp only [rowU, List.forall_mem_cons, e1, e2, e3, ei, List.not_mem_nil, false_implies, implies_true, and_self]
theorem rowOk1 (r : K_Rule) : eqOk 20 (rowD r) = true := by
  have e1 : eqOk 19 (.str "plain") = true := sp1
  have e2 : eqOk 19 (.str "moved") = true := sp2
  have e3 : eqOk 19 (.str "mixed") = true := sp3
  cases r with
  | Plain w => show (eqOk 19 (.str "plain") && _) = true; rw [e1]; rfl
  | Moved => show (eqOk 19 (.str "moved") && _) = true; rw [e2]; rfl
  | Mixed => show (eqOk 19 (.str "mixed") && _) = true; rw [e3]; rfl
theorem ruleL_row {r : K_Rule} (h : Gr r) : ruleL (rowU r) = some r := by
  cases r with
  | Plain w =>
    have : cP (rowU (.Plain w)) = true := by
      show (isStr (.str "plain") "plain" && (decide ((2 : Int) = 2) && isWhole (.int w) 0 255)) = true
      rw [eqPP, wh h]
      rfl
    unfold ruleL
    rw [if_pos this]
    rfl
  | Moved b c a =>
    have n : cP (rowU (.Moved b c a)) = false := by
      show (isStr (.str "moved") "plain" && _) = false
      rw [eqMP]
      rfl
    have : (cN (rowU (.Moved b c a)) && isWhole (q3 (rowU (.Moved b c a))) 0 255) = true := by
      show ((isStr (.str "moved") "moved" && (decide ((4 : Int) = 4) && (isWhole (.int b) 1 200 && isWhole (.int c) 0 15))) && isWhole (.int a) 0 255) = true
      rw [eqMM, wh h.1, wh h.2.1, wh h.2.2]
      rfl
    unfold ruleL
    rw [if_neg (by rw [n]; decide), if_pos this]
    rfl
  | Mixed b c d e =>
    have n : cP (rowU (.Mixed b c d e)) = false := by
      show (isStr (.str "mixed") "plain" && _) = false
      rw [eqXP]
      rfl
    have n2 : (cN (rowU (.Mixed b c d e)) && isWhole (q3 (rowU (.Mixed b c d e))) 0 255) = false := by
      show ((isStr (.str "mixed") "moved" && _) && _) = false
      rw [eqXM]
      rfl
    have : (cX (rowU (.Mixed b c d e)) && cY (rowU (.Mixed b c d e))) = true := by
      show ((isStr (.str "mixed") "mixed" && decide ((5 : Int) = 5)) && ((isWhole (.int b) 1 200 && isWhole (.int c) 0 15) && (isWhole (.int d) 1 200 && isWhole (.int e) 0 15))) = true
      rw [eqXX, wh h.1, wh h.2.1, wh h.2.2.1, wh h.2.2.2]
      rfl
    unfold ruleL
    rw [if_neg (by rw [n]; decide), if_neg (by rw [n2]; decide), if_pos this]
    rfl
theorem rule_of_row {r : K_Rule} (h : Gr r) : m_rule_of (rowD r) = .ok r := by
  rw [rule_m (rowOk r), ruleL_row h]
  rfl
/-! # what the law reads of a row -/
theorem st {α : Type} {d : D} {s : Str} {X Y : Res α} (h : eqOk 20 d = true) (hs : PyData.strOk s = true) : (guardR (okEq d (enc s)) (if (eqD d (enc s)) = true then X else Y)) = if isStr d s = true then X else Y := stepEq h hs
def nd : K_Rule → List (Tp2 Int Int)
  | .Plain _ => []
  | .Moved b c _ => [⟨b, c⟩]
  | .Mixed b c d e => [⟨b, c⟩, ⟨d, e⟩]
def vl (r : K_Rule) (w1 w2 : Int) : Int := match r with
  | .Plain w => w
  | .Moved _ _ a => (w1 + a) % 256
  | .Mixed .. => (w1 + w2) / 2
theorem needs_l (r : K_Rule) : l_needs (rowD r) = .ok (nd r) := by
  unfold l_needs
  cases r with
  | Plain w =>
    show guardR (okEq (.str "plain") (enc ("plain" : Str))) _ = _
    rw [stepEq (d := .str "plain") sp1 sp1, if_pos eqPP]
    rfl
  | Moved b c a =>
    show guardR (okEq (.str "moved") (enc ("plain" : Str))) _ = _
    rw [stepEq (d := .str "moved") sp2 sp1, if_neg (by rw [eqMP]; decide)]
    show guardR (okEq (.str "moved") (enc ("moved" : Str))) _ = _
    rw [stepEq (d := .str "moved") sp2 sp2, if_pos eqMM]
    rfl
  | Mixed b c d e =>
    show guardR (okEq (.str "mixed") (enc ("plain" : Str))) _ = _
    rw [stepEq (d := .str "mixed") sp3 sp1, if_neg (by rw [eqXP]; decide)]
    show guardR (okEq (.str "mixed") (enc ("moved" : Str))) _ = _
    rw [stepEq (d := .str "mixed") sp3 sp2, if_neg (by rw [eqXM]; decide)]
    rfl
theorem worth_l (r : K_Rule) (w1 w2 : Int) : l_worth (rowD r) [w1, w2] = .ok (vl r w1 w2) := by
  unfold l_worth
  cases r with
  | Plain w =>
    show guardR (okEq (.str "plain") (enc ("plain" : Str))) _ = _
    rw [stepEq (d := .str "plain") sp1 sp1, if_pos eqPP]
    rfl
  | Moved b c a =>
    show guardR (okEq (.str "moved") (enc ("plain" : Str))) _ = _
    rw [stepEq (d := .str "moved") sp2 sp1, if_neg (by rw [eqMP]; decide)]
    show guardR (okEq (.str "moved") (enc ("moved" : Str))) _ = _
    rw [stepEq (d := .str "moved") sp2 sp2, if_pos eqMM]
    rfl
  | Mixed b c d e =>
    show guardR (okEq (.str "mixed") (enc ("plain" : Str))) _ = _
    rw [stepEq (d := .str "mixed") sp3 sp1, if_neg (by rw [eqXP]; decide)]
    show guardR (okEq (.str "mixed") (enc ("moved" : Str))) _ = _
    rw [stepEq (d := .str "mixed") sp3 sp2, if_neg (by rw [eqXM]; decide)]
    rfl
theorem by_name_l (r : K_Rule) : l_by_name (rowD r) = .ok r := by
  unfold l_by_name
  cases r with
  | Plain w =>
    show guardR (okEq (.str "plain") (enc ("plain" : Str))) _ = _
    rw [stepEq (d := .str "plain") sp1 sp1, if_pos eqPP]
    rfl
  | Moved b c a =>
    show guardR (okEq (.str "moved") (enc ("plain" : Str))) _ = _
    rw [stepEq (d := .str "moved") sp2 sp1, if_neg (by rw [eqMP]; decide)]
    show guardR (okEq (.str "moved") (enc ("moved" : Str))) _ = _
    rw [stepEq (d := .str "moved") sp2 sp2, if_pos eqMM]
    rfl
  | Mixed b c d e =>
    show guardR (okEq (.str "mixed") (enc ("plain" : Str))) _ = _
    rw [stepEq (d := .str "mixed") sp3 sp1, if_neg (by rw [eqXP]; decide)]
    show guardR (okEq (.str "mixed") (enc ("moved" : Str))) _ = _
    rw [stepEq (d := .str "mixed") sp3 sp2, if_neg (by rw [eqXM]; decide)]
    rfl
theorem class_l (r : K_Rule) : l_of_its_class r (rowD r) = .ok true := by
  have c1 : ∀ {nm : Str} {fs : List (Str × D)} {tab : List (Str × Bool)} {b : Bool}, tab.lookup nm = some b → isCR tab (.obj nm fs) = .ok b := fun {nm fs tab b} h => by
    show (match tab.lookup nm with | some b => Res.ok b | none => .stuck) = _
    rw [h]
  unfold l_of_its_class
  cases r with
  | Plain w =>
    rw [show isCR [("Mixed", true), ("Moved", true), ("Plain", true)] (enc (K_Rule.Plain w)) = .ok true from c1 (by decide +kernel)]
    show guardR (okEq (.str "plain") (enc ("plain" : Str))) _ = _
    rw [stepEq (d := .str "plain") sp1 sp1, if_pos eqPP, show isCR [("Mixed", false), ("Moved", false), ("Plain", true)] (enc (K_Rule.Plain w)) = .ok true from c1 (by decide +kernel)]
    rfl
  | Moved b c a =>
    rw [show isCR [("Mixed", true), ("Moved", true), ("Plain", true)] (enc (K_Rule.Moved b c a)) = .ok true from c1 (by decide +kernel)]
    show guardR (okEq (.str "moved") (enc ("plain" : Str))) _ = _
    rw [stepEq (d := .str "moved") sp2 sp1, if_neg (by rw [eqMP]; decide)]
    show guardR (okEq (.str "moved") (enc ("moved" : Str))) _ = _
    rw [stepEq (d := .str "moved") sp2 sp2, if_pos eqMM, show isCR [("Mixed", false), ("Moved", true), ("Plain", false)] (enc (K_Rule.Moved b c a)) = .ok true from c1 (by decide +kernel)]
    rfl
  | Mixed b c d e =>
    rw [show isCR [("Mixed", true), ("Moved", true), ("Plain", true)] (enc (K_Rule.Mixed b c d e)) = .ok true from c1 (by decide +kernel)]
    show guardR (okEq (.str "mixed") (enc ("plain" : Str))) _ = _
    rw [stepEq (d := .str "mixed") sp3 sp1, if_neg (by rw [eqXP]; decide)]
    show guardR (okEq (.str "mixed") (enc ("moved" : Str))) _ = _
    rw [stepEq (d := .str "mixed") sp3 sp2, if_neg (by rw [eqXM]; decide), show isCR [("Mixed", true), ("Moved", false), ("Plain", false)] (enc (K_Rule.Mixed b c d e)) = .ok true from c1 (by decide +kernel)]
    rfl
def plainD : D → Bool
  | .int _ => true
  | .str _ => true
  | _ => false
theorem numbers_l {l : List D} (h : eqOk 20 (.tup l) = true) (hp : l.all plainD = true) (hl : l.length ≤ 10) : l_numbers (.tup l) (.tup l) = .ok true := by
  unfold l_numbers
  rw [if_pos (show isA "tuple" (.tup l) = true from (by decide +kernel : isS "tuple" "tuple" = true))]
  unfold guardR
  rw [if_pos (okEq_of h h), if_neg (by rw [eqD_refl (eqOk_flat _ 20 h).1]; decide)]
  show Res.bind (compR l () _) _ = _
  rw [compR_map (g := fun _ => true) (by omega) fun x m => ?_]
  · show Res.ok ((l.map fun _ => true).all id) = _
    rw [List.all_map]
    exact congrArg Res.ok (List.all_eq_true.mpr fun _ _ => rfl)
  · have hx := List.all_eq_true.mp hp x m
    cases x with
    | int i =>
      have e : l_whole (.int i) = .ok true := by
        unfold l_whole
        rw [if_pos (show isA "int" (.int i) = true from (by decide +kernel : isS "int" "int" = true))]
        exact congrArg Res.ok (by decide +kernel : (!(isS "int" "bool")) = true)
      rw [e]
      rfl
    | str s =>
      have e : l_whole (.str s) = .ok false := by
        unfold l_whole
        rw [if_neg (show ¬ (isA "int" (.str s) = true) from (by decide +kernel : ¬ (isS "str" "int" = true)))]
      rw [e]
      show Res.ok (some (isA "str" (.str s)), ()) = _
      rw [show isA "str" (.str s) = true from (by decide +kernel : isS "str" "str" = true)]
    | _ => exact nomatch hx
theorem pairs_l {l : List (Tp2 Int Int)} (hl : l.length ≤ 10) : l_pairs l l = .ok true := by
  unfold l_pairs
  rw [if_pos (show isA "list" (enc l) = true from (by decide +kernel : isS "list" "list" = true)), if_neg (by rw [decide_eq_true rfl]; decide)]
  have lz : (zipL l l).length ≤ 10 := by unfold zipL; rw [List.length_zipWith]; omega
  rw [compR_map (g := fun _ => true) (by omega) fun x m => ?_]
  · show Res.ok (((zipL l l).map fun _ => true).all id) = _
    rw [List.all_map]
    exact congrArg Res.ok (List.all_eq_true.mpr fun _ _ => rfl)
  · have : x.a = x.b := by
      unfold zipL at m
      obtain ⟨i, e⟩ := List.getElem?_of_mem m
      rw [List.getElem?_zipWith] at e
      cases q : l[i]? with
      | none => rw [q] at e; exact nomatch e
      | some y => rw [q] at e; cases e; rfl
    obtain ⟨⟨a, b⟩, y⟩ := x
    simp only at this
    subst this
    show Res.bind (l_numbers (.tup [.int a, .int b]) (.tup [.int a, .int b])) _ = _
    rw [numbers_l (l := [.int a, .int b]) rfl rfl (by decide : 2 ≤ 10)]
    rfl
theorem told_l (r : K_Rule) : m_Rule__told r = .ok (rowD r) := by cases r <;> rfl
theorem needs_m (r : K_Rule) : m_Rule__needs r = .ok (nd r) := by cases r <;> rfl
theorem value_m (r : K_Rule) (w1 w2 : Int) : m_Rule__value r (cutL [w1, w2] none (some ((nd r).length : Int))) = .ok (vl r w1 w2) := by
  cases r with
  | Plain w => rfl
  | Moved b c a => rfl
  | Mixed b c d e =>
    show Res.ok ((w1 + (w2 + 0)) / 2) = _
    rw [Int.add_zero]
    rfl
/-! # texts -/
theorem sl_app (a b : Str) : Str.length (a ++ b) = Str.length a + Str.length b := by
  show (a.cps ++ b.cps).size = _
  rw [Array.size_append]
  rfl
theorem emp (a : Str) : Str.empty ++ a = a := by
  show (⟨(Str.empty).cps ++ a.cps⟩ : Str) = a
  rw [show (Str.empty).cps = #[] from rfl, Array.empty_append]
abbrev ts (i : Int) : Str := toString i
theorem ts_len {i : Int} (h : In 0 255 i) : Str.length (ts i) ≤ 10 := by
  have : ∀ n : Fin 256, Str.length (ts ((n.val : Nat) : Int)) ≤ 10 := by decide +kernel
  have := this ⟨i.toNat, by have := h.1; have := h.2; omega⟩
  rw [show (((⟨i.toNat, by have := h.1; have := h.2; omega⟩ : Fin 256).val : Nat) : Int) = i by have := h.1; show ((i.toNat : Nat) : Int) = i; omega] at this
  exact this
theorem lg {i : Int} (h : In 0 255 i) : i.natAbs.log2 < 1920 := by
  have ex : i.natAbs = 0 ∨ 0 < i.natAbs := by omega
  have := h.1; have := h.2
  exact Nat.lt_of_lt_of_le (log2_small (n := i.natAbs) (b := 8) (by omega) (by decide)) (by decide)
def cl : Str := ":"
def pl : Str := "+"
def sh : Str := "/"
def sw : K_Rule → Str
  | .Plain w => ts w
  | .Moved b c a => (((ts b ++ cl) ++ ts c) ++ pl) ++ ts a
  | .Mixed b c d e => (((((ts b ++ cl) ++ ts c) ++ sh) ++ ts d) ++ cl) ++ ts e
theorem gp {α : Type} {p : Prop} [Decidable p] {m : Res α} (h : p) : guardR p m = m := by unfold guardR; exact if_pos h
theorem l1 : Str.length cl = 1 ∧ Str.length pl = 1 ∧ Str.length sh = 1 := by decide +kernel
theorem in1 {i : Int} (h : In 1 200 i) : In 0 255 i := ⟨by have := h.1; omega, by have := h.2; omega⟩
theorem in2 {i : Int} (h : In 0 15 i) : In 0 255 i := ⟨h.1, by have := h.2; omega⟩
theorem str_m {r : K_Rule} (h : Gr r) : m_Rule____str__ r = .ok (sw r) := by
  have l1 := l1
  cases r with
  | Plain w => exact gp (lg h)
  | Moved b c a =>
    obtain ⟨hb, hc, ha⟩ := h
    have tb := ts_len (in1 hb); have tc := ts_len (in2 hc); have ta := ts_len ha
    show m_Moved____str__ b c a = _
    unfold m_Moved____str__
    rw [emp]
    show guardR _ (guardR (Str.length (ts b) ≤ 1000000) (guardR (Str.length (ts b ++ cl) ≤ 1000000) (guardR _ (guardR (Str.length ((ts b ++ cl) ++ ts c) ≤ 1000000) (guardR (Str.length (((ts b ++ cl) ++ ts c) ++ pl) ≤ 1000000) (guardR _ (guardR (Str.length ((((ts b ++ cl) ++ ts c) ++ pl) ++ ts a) ≤ 1000000) (.ok (sw (.Moved b c a)))))))))) = _
    rw [gp (lg (in1 hb)), gp (by omega), gp (by simp only [sl_app]; omega), gp (lg (in2 hc)), gp (by simp only [sl_app]; omega), gp (by simp only [sl_app]; omega), gp (lg ha), gp (by simp only [sl_app]; omega)]
  | Mixed b c d e =>
    obtain ⟨hb, hc, hd, he⟩ := h
    have tb := ts_len (in1 hb); have tc := ts_len (in2 hc); have td := ts_len (in1 hd); have te := ts_len (in2 he)
    show m_Mixed____str__ b c d e = _
    unfold m_Mixed____str__
    rw [emp]
    show guardR _ (guardR (Str.length (ts b) ≤ 1000000) (guardR (Str.length (ts b ++ cl) ≤ 1000000) (guardR _ (guardR (Str.length ((ts b ++ cl) ++ ts c) ≤ 1000000) (guardR (Str.length (((ts b ++ cl) ++ ts c) ++ sh) ≤ 1000000) (guardR _ (guardR (Str.length ((((ts b ++ cl) ++ ts c) ++ sh) ++ ts d) ≤ 1000000) (guardR (Str.length (((((ts b ++ cl) ++ ts c) ++ sh) ++ ts d) ++ cl) ≤ 1000000) (guardR _ (guardR (Str.length ((((((ts b ++ cl) ++ ts c) ++ sh) ++ ts d) ++ cl) ++ ts e) ≤ 1000000) (.ok (sw (.Mixed b c d e))))))))))))) = _
    rw [gp (lg (in1 hb)), gp (by omega), gp (by simp only [sl_app]; omega), gp (lg (in2 hc)), gp (by simp only [sl_app]; omega), gp (by simp only [sl_app]; omega), gp (lg (in1 hd)), gp (by simp only [sl_app]; omega), gp (by simp only [sl_app]; omega), gp (lg (in2 he)), gp (by simp only [sl_app]; omega)]
theorem word_l {r : K_Rule} (h : Gr r) : l_word (rowD r) = .ok (sw r) := by
  have l1 := l1
  unfold l_word
  cases r with
  | Plain w =>
    show guardR (okEq (.str "plain") (enc ("plain" : Str))) _ = _
    rw [stepEq (d := .str "plain") sp1 sp1, if_pos eqPP]
    exact gp (lg h)
  | Moved b c a =>
    obtain ⟨hb, hc, ha⟩ := h
    have tb := ts_len (in1 hb); have tc := ts_len (in2 hc); have ta := ts_len ha
    show guardR (okEq (.str "moved") (enc ("plain" : Str))) _ = _
    rw [stepEq (d := .str "moved") sp2 sp1, if_neg (by rw [eqMP]; decide)]
    show guardR (okEq (.str "moved") (enc ("moved" : Str))) _ = _
    rw [stepEq (d := .str "moved") sp2 sp2, if_pos eqMM]
    show guardR _ (guardR (Str.length (ts b) + Str.length cl ≤ 1000000) (guardR _ (guardR (Str.length (ts b ++ cl) + Str.length (ts c) ≤ 1000000) (guardR (Str.length ((ts b ++ cl) ++ ts c) + Str.length pl ≤ 1000000) (guardR _ (guardR (Str.length (((ts b ++ cl) ++ ts c) ++ pl) + Str.length (ts a) ≤ 1000000) (.ok (sw (.Moved b c a))))))))) = _
    rw [gp (lg (in1 hb)), gp (by omega), gp (lg (in2 hc)), gp (by simp only [sl_app]; omega), gp (by simp only [sl_app]; omega), gp (lg ha), gp (by simp only [sl_app]; omega)]
  | Mixed b c d e =>
    obtain ⟨hb, hc, hd, he⟩ := h
    have tb := ts_len (in1 hb); have tc := ts_len (in2 hc); have td := ts_len (in1 hd); have te := ts_len (in2 he)
    show guardR (okEq (.str "mixed") (enc ("plain" : Str))) _ = _
    rw [stepEq (d := .str "mixed") sp3 sp1, if_neg (by rw [eqXP]; decide)]
    show guardR (okEq (.str "mixed") (enc ("moved" : Str))) _ = _
    rw [stepEq (d := .str "mixed") sp3 sp2, if_neg (by rw [eqXM]; decide)]
    show guardR _ (guardR (Str.length (ts b) + Str.length cl ≤ 1000000) (guardR _ (guardR (Str.length (ts b ++ cl) + Str.length (ts c) ≤ 1000000) (guardR (Str.length ((ts b ++ cl) ++ ts c) + Str.length sh ≤ 1000000) (guardR _ (guardR (Str.length (((ts b ++ cl) ++ ts c) ++ sh) + Str.length (ts d) ≤ 1000000) (guardR (Str.length ((((ts b ++ cl) ++ ts c) ++ sh) ++ ts d) + Str.length cl ≤ 1000000) (guardR _ (guardR (Str.length (((((ts b ++ cl) ++ ts c) ++ sh) ++ ts d) ++ cl) + Str.length (ts e) ≤ 1000000) (.ok (sw (.Mixed b c d e)))))))))))) = _
    rw [gp (lg (in1 hb)), gp (by omega), gp (lg (in2 hc)), gp (by simp only [sl_app]; omega), gp (by simp only [sl_app]; omega), gp (lg (in1 hd)), gp (by simp only [sl_app]; omega), gp (by simp only [sl_app]; omega), gp (lg (in2 he)), gp (by simp only [sl_app]; omega)]
theorem nd_len (r : K_Rule) : (nd r).length ≤ 2 := by cases r <;> simp [nd]
theorem rowU_len (r : K_Rule) : (rowU r).length ≤ 10 := by cases r <;> simp [rowU]
theorem rowU_plain (r : K_Rule) : (rowU r).all plainD = true := by cases r <;> rfl
theorem bk_ {α β : Type} {a : α} {k : α → Res β} : (Res.ok a).bind k = k a := rfl
theorem noErr_ok {α : Type} {m : Res α} {a : α} (e : m = .ok a) : m.noErr = .ok a := by rw [e]; rfl
theorem right_l {r : K_Rule} (h : Gr r) (w1 w2 : Int) : l_right r (rowD r) [w1, w2] = .ok true := by
  have nr : l_numbers (rowD r) (rowD r) = .ok true := numbers_l (rowOk1 r) (rowU_plain r) (rowU_len r)
  have pr : l_pairs (nd r) (nd r) = .ok true := pairs_l (by have := nd_len r; omega)
  have wv : ∀ i : Int, l_whole (enc i) = .ok true := fun i => by
    unfold l_whole
    rw [if_pos (show isA "int" (enc i) = true from (by decide +kernel : isS "int" "int" = true))]
    exact congrArg Res.ok (by decide +kernel : (!(isS "int" "bool")) = true)
  unfold l_right
  rw [needs_l, class_l, told_l]
  show Res.bind (l_numbers (rowD r) (rowD r)) _ = _
  rw [nr, needs_m]
  show Res.bind (l_pairs (nd r) (nd r)) _ = _
  rw [pr]
  show guardR _ _ = _
  rw [gp (by have := nd_len r; omega), value_m, bk_, wv]
  show Res.bind (l_worth (rowD r) [w1, w2]) _ = _
  rw [worth_l]
  show (if (!decide (vl r w1 w2 = vl r w1 w2)) = true then _ else _) = _
  rw [if_neg (by rw [decide_eq_true rfl]; decide)]
  have eo : ∀ l : List Int, eqOk 20 (enc l) = true := fun l => eqOk_ints l 19
  rw [gp (okEq_of (eo _) (eo _)), if_neg (by rw [eqD_refl (eqOk_flat _ 20 (eo _)).1]; decide)]
  show Res.bind (l_pairs (nd r) (nd r)) _ = _
  rw [pr, str_m h]
  show Res.bind (l_word (rowD r)) _ = _
  rw [word_l h]
  show Res.ok (decide (sw r = sw r)) = _
  rw [decide_eq_true rfl]
/-! # drawn -/
theorem edge_ok {st : List Int} {lo hi : Int} (h : st.length = 3) (hl : lo ≤ hi) (hb : (hi - lo + 1).natAbs < 18446744073709551616) : Ok (l_edge st lo hi) fun r => In lo hi r.1 ∧ r.2.length = 3 := by
  unfold l_edge
  refine dw h (by decide) (by decide) fun x s a b h3 => Ok.ite (fun _ => Ok.pure ⟨⟨Int.le_refl _, hl⟩, h3⟩) fun _ => Ok.ite (fun _ => Ok.pure ⟨⟨hl, Int.le_refl _⟩, h3⟩) fun _ => ?_
  refine dw h3 (by omega) hb fun x s a b h3 => Ok.pure ⟨⟨by simp only; omega, by simp only; omega⟩, h3⟩
theorem rule_ok {st : List Int} (h : st.length = 3) : Ok (l_rule st) fun r => ∃ k, Gr k ∧ r.1 = rowD k := by
  unfold l_rule
  refine dw h (by decide) (by decide) fun x s a b h3 => dw h3 (by decide) (by decide) fun y s a b h3 => Ok.lt (Ok.ite (fun _ => ?_) fun _ => ?_)
  · refine Ok.bind (edge_ok h3 (by decide) (by decide)) ?_
    rintro ⟨w, s⟩ ⟨hw, _⟩
    exact Ok.pure ⟨.Plain w, hw, rfl⟩
  · refine Ok.bind (edge_ok h3 (by decide) (by decide)) ?_
    rintro ⟨b1, s⟩ ⟨hb, h3⟩
    refine Ok.bind (edge_ok h3 (by decide) (by decide)) ?_
    rintro ⟨c1, s⟩ ⟨hc, h3⟩
    refine Ok.ite (fun _ => ?_) fun _ => Ok.ite (fun _ => Ok.pure ⟨.Mixed b1 c1 b1 c1, ⟨hb, hc, hb, hc⟩, rfl⟩) fun _ => ?_
    · refine Ok.bind (edge_ok h3 (by decide) (by decide)) ?_
      rintro ⟨a1, s⟩ ⟨ha, h3⟩
      exact Ok.pure ⟨.Moved b1 c1 a1, ⟨hb, hc, ha⟩, rfl⟩
    · refine Ok.bind (edge_ok h3 (by decide) (by decide)) ?_
      rintro ⟨d1, s⟩ ⟨hd, h3⟩
      refine Ok.bind (edge_ok h3 (by decide) (by decide)) ?_
      rintro ⟨e1, s⟩ ⟨he, h3⟩
      exact Ok.pure ⟨.Mixed b1 c1 d1 e1, ⟨hb, hc, hd, he⟩, rfl⟩
theorem law_ok (ns : List Int) (h : ns.length ≤ 63) : m_law ns = .ok true := by
  have q : Ok (m_law ns) fun r => r = true := by
    unfold m_law
    refine Ok.bind (well_ok (by decide)) fun s1 g1 => Ok.bind (rule_ok g1) ?_
    rintro ⟨_, _⟩ ⟨r, hr, rfl⟩
    refine Ok.bind (well_ok (by decide)) fun s2 g2 => Ok.bind (rule_ok g2) ?_
    rintro ⟨_, _⟩ ⟨o, ho, rfl⟩
    refine Ok.bind (well_ok (by decide)) fun s3 g3 => Ok.bind (edge_ok g3 (by decide) (by decide)) ?_
    rintro ⟨w1, s⟩ ⟨_, g⟩
    refine Ok.bind (edge_ok g (by decide) (by decide)) ?_
    rintro ⟨w2, s⟩ ⟨_, g⟩
    refine Ok.bind (edge_ok g (by decide) (by decide)) ?_
    rintro ⟨w3, s⟩ ⟨_, g⟩
    refine Ok.bind (edge_ok g (by decide) (by decide)) ?_
    rintro ⟨w4, s⟩ ⟨_, g⟩
    refine Ok.bindE (noErr_ok (rule_of_row hr)) (Ok.bindE (right_l hr w1 w2) (Ok.iteT rfl (Ok.bindE (noErr_ok (rule_of_row ho)) (Ok.bindE (right_l ho w3 w4) (Ok.iteT rfl (Ok.bindE (right_l hr w3 w4) (Ok.iteT rfl ?_)))))))
    exact Ok.bindE (by_name_l r) (Ok.bindE (right_l hr w1 w2) (Ok.iteT rfl (Ok.bindE (noErr_ok (rule_of_row hr)) (Ok.bindE (right_l hr w1 w2) (Ok.pure rfl)))))
  obtain ⟨a, e, rfl⟩ := q
  exact e
end A

set_option Elab.async false
set_option linter.all false
set_option maxRecDepth 100000
set_option maxHeartbeats 4000000
namespace A
open PySem PySem.Spec PyProof.Rows L2 Y
open Y.Enc (enc)
theorem all_mk {l : PySem.W.OpenLaw} {w : World} {K : PySem.W.Frag} {h : Heap} {mg : Str → Option Value} {fa : Addr} (X : K.In h) (G : h.Ns mainGlobals mg) (hfa : mg "law" = some (.ref fa))
    {C_Plain : Addr}
    (kca_Plain : PySem.W.nsIn K mainGlobals "Plain" = some (some (.ref C_Plain)))
    (kcpg_Plain : PySem.W.plainGet K C_Plain Str.empty = true)
    (kchd_Plain : PySem.W.hasDictIn K C_Plain = true)
    (kcpo_Plain : PySem.W.plainOver K C_Plain = true)
    (kcsa_Plain : PySem.W.findIn K (.ref C_Plain) "__setattr__" = some (some (.builtin "object.__setattr__")))
    (kcha_Plain : PySem.W.findIn K (.ref C_Plain) "__class__" = some (some (.builtin "object.__class__")))
    (kchm_Plain : PySem.W.mroIn K C_Plain (.type "object") = some true)
    (kcty_Plain : PySem.W.typeIn K (.ref C_Plain) = some (.type "type"))
    (kcis_Plain : PySem.W.isClsIn K C_Plain = true)
    (kcself_Plain : PySem.W.subIn K (.ref C_Plain) (.ref C_Plain) = some true)
    (kctbool_Plain : PySem.W.subIn K (.ref C_Plain) (.type "bool") = some false)
    (kctint_Plain : PySem.W.subIn K (.ref C_Plain) (.type "int") = some false)
    (kctstr_Plain : PySem.W.subIn K (.ref C_Plain) (.type "str") = some false)
    (kctlist_Plain : PySem.W.subIn K (.ref C_Plain) (.type "list") = some false)
    (kcttuple_Plain : PySem.W.subIn K (.ref C_Plain) (.type "tuple") = some false)
    (kctdict_Plain : PySem.W.subIn K (.ref C_Plain) (.type "dict") = some false)
    (kcmk_Plain : PySem.W.makesIn K C_Plain = true)
    (kckp_Plain : PySem.W.keepIn K (.ref C_Plain) = true)
    {C_Moved : Addr}
    (kca_Moved : PySem.W.nsIn K mainGlobals "Moved" = some (some (.ref C_Moved)))
    (kcpg_Moved : PySem.W.plainGet K C_Moved Str.empty = true)
    (kchd_Moved : PySem.W.hasDictIn K C_Moved = true)
    (kcpo_Moved : PySem.W.plainOver K C_Moved = true)
    (kcsa_Moved : PySem.W.findIn K (.ref C_Moved) "__setattr__" = some (some (.builtin "object.__setattr__")))
    (kcha_Moved : PySem.W.findIn K (.ref C_Moved) "__class__" = some (some (.builtin "object.__class__")))
    (kchm_Moved : PySem.W.mroIn K C_Moved (.type "object") = some true)
    (kcty_Moved : PySem.W.typeIn K (.ref C_Moved) = some (.type "type"))
    (kcis_Moved : PySem.W.isClsIn K C_Moved = true)
    (kcself_Moved : PySem.W.subIn K (.ref C_Moved) (.ref C_Moved) = some true)
    (kctbool_Moved : PySem.W.subIn K (.ref C_Moved) (.type "bool") = some false)
    (kctint_Moved : PySem.W.subIn K (.ref C_Moved) (.type "int") = some false)
    (kctstr_Moved : PySem.W.subIn K (.ref C_Moved) (.type "str") = some false)
    (kctlist_Moved : PySem.W.subIn K (.ref C_Moved) (.type "list") = some false)
    (kcttuple_Moved : PySem.W.subIn K (.ref C_Moved) (.type "tuple") = some false)
    (kctdict_Moved : PySem.W.subIn K (.ref C_Moved) (.type "dict") = some false)
    (kcmk_Moved : PySem.W.makesIn K C_Moved = true)
    (kckp_Moved : PySem.W.keepIn K (.ref C_Moved) = true)
    {C_Mixed : Addr}
    (kca_Mixed : PySem.W.nsIn K mainGlobals "Mixed" = some (some (.ref C_Mixed)))
    (kcpg_Mixed : PySem.W.plainGet K C_Mixed Str.empty = true)
    (kchd_Mixed : PySem.W.hasDictIn K C_Mixed = true)
    (kcpo_Mixed : PySem.W.plainOver K C_Mixed = true)
    (kcsa_Mixed : PySem.W.findIn K (.ref C_Mixed) "__setattr__" = some (some (.builtin "object.__setattr__")))
    (kcha_Mixed : PySem.W.findIn K (.ref C_Mixed) "__class__" = some (some (.builtin "object.__class__")))
    (kchm_Mixed : PySem.W.mroIn K C_Mixed (.type "object") = some true)
    (kcty_Mixed : PySem.W.typeIn K (.ref C_Mixed) = some (.type "type"))
    (kcis_Mixed : PySem.W.isClsIn K C_Mixed = true)
    (kcself_Mixed : PySem.W.subIn K (.ref C_Mixed) (.ref C_Mixed) = some true)
    (kctbool_Mixed : PySem.W.subIn K (.ref C_Mixed) (.type "bool") = some false)
    (kctint_Mixed : PySem.W.subIn K (.ref C_Mixed) (.type "int") = some false)
    (kctstr_Mixed : PySem.W.subIn K (.ref C_Mixed) (.type "str") = some false)
    (kctlist_Mixed : PySem.W.subIn K (.ref C_Mixed) (.type "list") = some false)
    (kcttuple_Mixed : PySem.W.subIn K (.ref C_Mixed) (.type "tuple") = some false)
    (kctdict_Mixed : PySem.W.subIn K (.ref C_Mixed) (.type "dict") = some false)
    (kcmk_Mixed : PySem.W.makesIn K C_Mixed = true)
    (kckp_Mixed : PySem.W.keepIn K (.ref C_Mixed) = true)
    {C_Rule : Addr}
    (kca_Rule : PySem.W.nsIn K mainGlobals "Rule" = some (some (.ref C_Rule)))
    (kcpg_Rule : PySem.W.plainGet K C_Rule Str.empty = true)
    (kchd_Rule : PySem.W.hasDictIn K C_Rule = true)
    (kcpo_Rule : PySem.W.plainOver K C_Rule = true)
    (kcsa_Rule : PySem.W.findIn K (.ref C_Rule) "__setattr__" = some (some (.builtin "object.__setattr__")))
    (kcha_Rule : PySem.W.findIn K (.ref C_Rule) "__class__" = some (some (.builtin "object.__class__")))
    (kchm_Rule : PySem.W.mroIn K C_Rule (.type "object") = some true)
    (kcty_Rule : PySem.W.typeIn K (.ref C_Rule) = some (.type "type"))
    (kcis_Rule : PySem.W.isClsIn K C_Rule = true)
    (kcself_Rule : PySem.W.subIn K (.ref C_Rule) (.ref C_Rule) = some true)
    (kctbool_Rule : PySem.W.subIn K (.ref C_Rule) (.type "bool") = some false)
    (kctint_Rule : PySem.W.subIn K (.ref C_Rule) (.type "int") = some false)
    (kctstr_Rule : PySem.W.subIn K (.ref C_Rule) (.type "str") = some false)
    (kctlist_Rule : PySem.W.subIn K (.ref C_Rule) (.type "list") = some false)
    (kcttuple_Rule : PySem.W.subIn K (.ref C_Rule) (.type "tuple") = some false)
    (kctdict_Rule : PySem.W.subIn K (.ref C_Rule) (.type "dict") = some false)
    (n_Moved_back : PySem.W.findIn K (.ref C_Moved) "back" = some none)
    (n_Moved_cell : PySem.W.findIn K (.ref C_Moved) "cell" = some none)
    (n_Mixed_back : PySem.W.findIn K (.ref C_Mixed) "back" = some none)
    (n_Mixed_cell : PySem.W.findIn K (.ref C_Mixed) "cell" = some none)
    (n_Mixed_other_back : PySem.W.findIn K (.ref C_Mixed) "other_back" = some none)
    (n_Mixed_other_cell : PySem.W.findIn K (.ref C_Mixed) "other_cell" = some none)
    (n_Plain_worth : PySem.W.findIn K (.ref C_Plain) "worth" = some none)
    (n_Moved_add : PySem.W.findIn K (.ref C_Moved) "add" = some none)
    (p_Plain_Rule : PySem.W.subIn K (.ref C_Plain) (.ref C_Rule) = some true)
    (p_Moved_Rule : PySem.W.subIn K (.ref C_Moved) (.ref C_Rule) = some true)
    (p_Mixed_Rule : PySem.W.subIn K (.ref C_Mixed) (.ref C_Rule) = some true)
    (p_Plain_Plain : PySem.W.subIn K (.ref C_Plain) (.ref C_Plain) = some true)
    (p_Moved_Plain : PySem.W.subIn K (.ref C_Moved) (.ref C_Plain) = some false)
    (p_Mixed_Plain : PySem.W.subIn K (.ref C_Mixed) (.ref C_Plain) = some false)
    (p_Plain_Moved : PySem.W.subIn K (.ref C_Plain) (.ref C_Moved) = some false)
    (p_Moved_Moved : PySem.W.subIn K (.ref C_Moved) (.ref C_Moved) = some true)
    (p_Mixed_Moved : PySem.W.subIn K (.ref C_Mixed) (.ref C_Moved) = some false)
    (p_Plain_Mixed : PySem.W.subIn K (.ref C_Plain) (.ref C_Mixed) = some false)
    (p_Moved_Mixed : PySem.W.subIn K (.ref C_Moved) (.ref C_Mixed) = some false)
    (p_Mixed_Mixed : PySem.W.subIn K (.ref C_Mixed) (.ref C_Mixed) = some true)
    {f_is_whole : Addr} {od_is_whole an_is_whole : Option Addr} {sl_is_whole : Array (Option Value)} {oc_is_whole kV_is_whole dc_is_whole pm_is_whole cd_is_whole ct_is_whole : Value}
    (a_is_whole : PySem.W.nsIn K mainGlobals "is_whole" = some (some (.ref f_is_whole))) (l_is_whole : K.lookup f_is_whole = some ⟨oc_is_whole, od_is_whole, .func (PySem.W.fnOf "is_whole" "is_whole" (defArgs s_is_whole) (defBody s_is_whole) (defScope s_is_whole) .none kV_is_whole dc_is_whole pm_is_whole an_is_whole cd_is_whole ct_is_whole), sl_is_whole⟩) (c_is_whole : PySem.W.codeIn K cd_is_whole "is_whole" = true) (k_is_whole : PySem.W.keepIn K (.ref f_is_whole) = true)
    {f_is_need : Addr} {od_is_need an_is_need : Option Addr} {sl_is_need : Array (Option Value)} {oc_is_need kV_is_need dc_is_need pm_is_need cd_is_need ct_is_need : Value}
    (a_is_need : PySem.W.nsIn K mainGlobals "is_need" = some (some (.ref f_is_need))) (l_is_need : K.lookup f_is_need = some ⟨oc_is_need, od_is_need, .func (PySem.W.fnOf "is_need" "is_need" (defArgs s_is_need) (defBody s_is_need) (defScope s_is_need) .none kV_is_need dc_is_need pm_is_need an_is_need cd_is_need ct_is_need), sl_is_need⟩) (c_is_need : PySem.W.codeIn K cd_is_need "is_need" = true) (k_is_need : PySem.W.keepIn K (.ref f_is_need) = true)
    {f_rule_of : Addr} {od_rule_of an_rule_of : Option Addr} {sl_rule_of : Array (Option Value)} {oc_rule_of kV_rule_of dc_rule_of pm_rule_of cd_rule_of ct_rule_of : Value}
    (a_rule_of : PySem.W.nsIn K mainGlobals "rule_of" = some (some (.ref f_rule_of))) (l_rule_of : K.lookup f_rule_of = some ⟨oc_rule_of, od_rule_of, .func (PySem.W.fnOf "rule_of" "rule_of" (defArgs s_rule_of) (defBody s_rule_of) (defScope s_rule_of) .none kV_rule_of dc_rule_of pm_rule_of an_rule_of cd_rule_of ct_rule_of), sl_rule_of⟩) (c_rule_of : PySem.W.codeIn K cd_rule_of "rule_of" = true) (k_rule_of : PySem.W.keepIn K (.ref f_rule_of) = true)
    {f__law_cell_at : Addr} {od__law_cell_at an__law_cell_at : Option Addr} {sl__law_cell_at : Array (Option Value)} {oc__law_cell_at kV__law_cell_at dc__law_cell_at pm__law_cell_at cd__law_cell_at ct__law_cell_at : Value}
    (a__law_cell_at : PySem.W.nsIn K mainGlobals "_law_cell_at" = some (some (.ref f__law_cell_at))) (l__law_cell_at : K.lookup f__law_cell_at = some ⟨oc__law_cell_at, od__law_cell_at, .func (PySem.W.fnOf "_law_cell_at" "_law_cell_at" (defArgs s__law_cell_at) (defBody s__law_cell_at) (defScope s__law_cell_at) .none kV__law_cell_at dc__law_cell_at pm__law_cell_at an__law_cell_at cd__law_cell_at ct__law_cell_at), sl__law_cell_at⟩) (c__law_cell_at : PySem.W.codeIn K cd__law_cell_at "_law_cell_at" = true) (k__law_cell_at : PySem.W.keepIn K (.ref f__law_cell_at) = true)
    {f__law_well : Addr} {od__law_well an__law_well : Option Addr} {sl__law_well : Array (Option Value)} {oc__law_well kV__law_well dc__law_well pm__law_well cd__law_well ct__law_well : Value}
    (a__law_well : PySem.W.nsIn K mainGlobals "_law_well" = some (some (.ref f__law_well))) (l__law_well : K.lookup f__law_well = some ⟨oc__law_well, od__law_well, .func (PySem.W.fnOf "_law_well" "_law_well" (defArgs s__law_well) (defBody s__law_well) (defScope s__law_well) .none kV__law_well dc__law_well pm__law_well an__law_well cd__law_well ct__law_well), sl__law_well⟩) (c__law_well : PySem.W.codeIn K cd__law_well "_law_well" = true) (k__law_well : PySem.W.keepIn K (.ref f__law_well) = true)
    {f__law_draw : Addr} {od__law_draw an__law_draw : Option Addr} {sl__law_draw : Array (Option Value)} {oc__law_draw kV__law_draw dc__law_draw pm__law_draw cd__law_draw ct__law_draw : Value}
    (a__law_draw : PySem.W.nsIn K mainGlobals "_law_draw" = some (some (.ref f__law_draw))) (l__law_draw : K.lookup f__law_draw = some ⟨oc__law_draw, od__law_draw, .func (PySem.W.fnOf "_law_draw" "_law_draw" (defArgs s__law_draw) (defBody s__law_draw) (defScope s__law_draw) .none kV__law_draw dc__law_draw pm__law_draw an__law_draw cd__law_draw ct__law_draw), sl__law_draw⟩) (c__law_draw : PySem.W.codeIn K cd__law_draw "_law_draw" = true) (k__law_draw : PySem.W.keepIn K (.ref f__law_draw) = true)
    {f__law_whole : Addr} {od__law_whole an__law_whole : Option Addr} {sl__law_whole : Array (Option Value)} {oc__law_whole kV__law_whole dc__law_whole pm__law_whole cd__law_whole ct__law_whole : Value}
    (a__law_whole : PySem.W.nsIn K mainGlobals "_law_whole" = some (some (.ref f__law_whole))) (l__law_whole : K.lookup f__law_whole = some ⟨oc__law_whole, od__law_whole, .func (PySem.W.fnOf "_law_whole" "_law_whole" (defArgs s__law_whole) (defBody s__law_whole) (defScope s__law_whole) .none kV__law_whole dc__law_whole pm__law_whole an__law_whole cd__law_whole ct__law_whole), sl__law_whole⟩) (c__law_whole : PySem.W.codeIn K cd__law_whole "_law_whole" = true) (k__law_whole : PySem.W.keepIn K (.ref f__law_whole) = true)
    {f__law_edge : Addr} {od__law_edge an__law_edge : Option Addr} {sl__law_edge : Array (Option Value)} {oc__law_edge kV__law_edge dc__law_edge pm__law_edge cd__law_edge ct__law_edge : Value}
    (a__law_edge : PySem.W.nsIn K mainGlobals "_law_edge" = some (some (.ref f__law_edge))) (l__law_edge : K.lookup f__law_edge = some ⟨oc__law_edge, od__law_edge, .func (PySem.W.fnOf "_law_edge" "_law_edge" (defArgs s__law_edge) (defBody s__law_edge) (defScope s__law_edge) .none kV__law_edge dc__law_edge pm__law_edge an__law_edge cd__law_edge ct__law_edge), sl__law_edge⟩) (c__law_edge : PySem.W.codeIn K cd__law_edge "_law_edge" = true) (k__law_edge : PySem.W.keepIn K (.ref f__law_edge) = true)
    {f__law_rule : Addr} {od__law_rule an__law_rule : Option Addr} {sl__law_rule : Array (Option Value)} {oc__law_rule kV__law_rule dc__law_rule pm__law_rule cd__law_rule ct__law_rule : Value}
    (a__law_rule : PySem.W.nsIn K mainGlobals "_law_rule" = some (some (.ref f__law_rule))) (l__law_rule : K.lookup f__law_rule = some ⟨oc__law_rule, od__law_rule, .func (PySem.W.fnOf "_law_rule" "_law_rule" (defArgs s__law_rule) (defBody s__law_rule) (defScope s__law_rule) .none kV__law_rule dc__law_rule pm__law_rule an__law_rule cd__law_rule ct__law_rule), sl__law_rule⟩) (c__law_rule : PySem.W.codeIn K cd__law_rule "_law_rule" = true) (k__law_rule : PySem.W.keepIn K (.ref f__law_rule) = true)
    {f__law_needs : Addr} {od__law_needs an__law_needs : Option Addr} {sl__law_needs : Array (Option Value)} {oc__law_needs kV__law_needs dc__law_needs pm__law_needs cd__law_needs ct__law_needs : Value}
    (a__law_needs : PySem.W.nsIn K mainGlobals "_law_needs" = some (some (.ref f__law_needs))) (l__law_needs : K.lookup f__law_needs = some ⟨oc__law_needs, od__law_needs, .func (PySem.W.fnOf "_law_needs" "_law_needs" (defArgs s__law_needs) (defBody s__law_needs) (defScope s__law_needs) .none kV__law_needs dc__law_needs pm__law_needs an__law_needs cd__law_needs ct__law_needs), sl__law_needs⟩) (c__law_needs : PySem.W.codeIn K cd__law_needs "_law_needs" = true) (k__law_needs : PySem.W.keepIn K (.ref f__law_needs) = true)
    {f__law_worth : Addr} {od__law_worth an__law_worth : Option Addr} {sl__law_worth : Array (Option Value)} {oc__law_worth kV__law_worth dc__law_worth pm__law_worth cd__law_worth ct__law_worth : Value}
    (a__law_worth : PySem.W.nsIn K mainGlobals "_law_worth" = some (some (.ref f__law_worth))) (l__law_worth : K.lookup f__law_worth = some ⟨oc__law_worth, od__law_worth, .func (PySem.W.fnOf "_law_worth" "_law_worth" (defArgs s__law_worth) (defBody s__law_worth) (defScope s__law_worth) .none kV__law_worth dc__law_worth pm__law_worth an__law_worth cd__law_worth ct__law_worth), sl__law_worth⟩) (c__law_worth : PySem.W.codeIn K cd__law_worth "_law_worth" = true) (k__law_worth : PySem.W.keepIn K (.ref f__law_worth) = true)
    {f__law_word : Addr} {od__law_word an__law_word : Option Addr} {sl__law_word : Array (Option Value)} {oc__law_word kV__law_word dc__law_word pm__law_word cd__law_word ct__law_word : Value}
    (a__law_word : PySem.W.nsIn K mainGlobals "_law_word" = some (some (.ref f__law_word))) (l__law_word : K.lookup f__law_word = some ⟨oc__law_word, od__law_word, .func (PySem.W.fnOf "_law_word" "_law_word" (defArgs s__law_word) (defBody s__law_word) (defScope s__law_word) .none kV__law_word dc__law_word pm__law_word an__law_word cd__law_word ct__law_word), sl__law_word⟩) (c__law_word : PySem.W.codeIn K cd__law_word "_law_word" = true) (k__law_word : PySem.W.keepIn K (.ref f__law_word) = true)
    {f__law_by_name : Addr} {od__law_by_name an__law_by_name : Option Addr} {sl__law_by_name : Array (Option Value)} {oc__law_by_name kV__law_by_name dc__law_by_name pm__law_by_name cd__law_by_name ct__law_by_name : Value}
    (a__law_by_name : PySem.W.nsIn K mainGlobals "_law_by_name" = some (some (.ref f__law_by_name))) (l__law_by_name : K.lookup f__law_by_name = some ⟨oc__law_by_name, od__law_by_name, .func (PySem.W.fnOf "_law_by_name" "_law_by_name" (defArgs s__law_by_name) (defBody s__law_by_name) (defScope s__law_by_name) .none kV__law_by_name dc__law_by_name pm__law_by_name an__law_by_name cd__law_by_name ct__law_by_name), sl__law_by_name⟩) (c__law_by_name : PySem.W.codeIn K cd__law_by_name "_law_by_name" = true) (k__law_by_name : PySem.W.keepIn K (.ref f__law_by_name) = true)
    {f__law_of_its_class : Addr} {od__law_of_its_class an__law_of_its_class : Option Addr} {sl__law_of_its_class : Array (Option Value)} {oc__law_of_its_class kV__law_of_its_class dc__law_of_its_class pm__law_of_its_class cd__law_of_its_class ct__law_of_its_class : Value}
    (a__law_of_its_class : PySem.W.nsIn K mainGlobals "_law_of_its_class" = some (some (.ref f__law_of_its_class))) (l__law_of_its_class : K.lookup f__law_of_its_class = some ⟨oc__law_of_its_class, od__law_of_its_class, .func (PySem.W.fnOf "_law_of_its_class" "_law_of_its_class" (defArgs s__law_of_its_class) (defBody s__law_of_its_class) (defScope s__law_of_its_class) .none kV__law_of_its_class dc__law_of_its_class pm__law_of_its_class an__law_of_its_class cd__law_of_its_class ct__law_of_its_class), sl__law_of_its_class⟩) (c__law_of_its_class : PySem.W.codeIn K cd__law_of_its_class "_law_of_its_class" = true) (k__law_of_its_class : PySem.W.keepIn K (.ref f__law_of_its_class) = true)
    {f__law_numbers : Addr} {od__law_numbers an__law_numbers : Option Addr} {sl__law_numbers : Array (Option Value)} {oc__law_numbers kV__law_numbers dc__law_numbers pm__law_numbers cd__law_numbers ct__law_numbers : Value}
    (a__law_numbers : PySem.W.nsIn K mainGlobals "_law_numbers" = some (some (.ref f__law_numbers))) (l__law_numbers : K.lookup f__law_numbers = some ⟨oc__law_numbers, od__law_numbers, .func (PySem.W.fnOf "_law_numbers" "_law_numbers" (defArgs s__law_numbers) (defBody s__law_numbers) (defScope s__law_numbers) .none kV__law_numbers dc__law_numbers pm__law_numbers an__law_numbers cd__law_numbers ct__law_numbers), sl__law_numbers⟩) (c__law_numbers : PySem.W.codeIn K cd__law_numbers "_law_numbers" = true) (k__law_numbers : PySem.W.keepIn K (.ref f__law_numbers) = true)
    {f__law_pairs : Addr} {od__law_pairs an__law_pairs : Option Addr} {sl__law_pairs : Array (Option Value)} {oc__law_pairs kV__law_pairs dc__law_pairs pm__law_pairs cd__law_pairs ct__law_pairs : Value}
    (a__law_pairs : PySem.W.nsIn K mainGlobals "_law_pairs" = some (some (.ref f__law_pairs))) (l__law_pairs : K.lookup f__law_pairs = some ⟨oc__law_pairs, od__law_pairs, .func (PySem.W.fnOf "_law_pairs" "_law_pairs" (defArgs s__law_pairs) (defBody s__law_pairs) (defScope s__law_pairs) .none kV__law_pairs dc__law_pairs pm__law_pairs an__law_pairs cd__law_pairs ct__law_pairs), sl__law_pairs⟩) (c__law_pairs : PySem.W.codeIn K cd__law_pairs "_law_pairs" = true) (k__law_pairs : PySem.W.keepIn K (.ref f__law_pairs) = true)
    {f__law_right : Addr} {od__law_right an__law_right : Option Addr} {sl__law_right : Array (Option Value)} {oc__law_right kV__law_right dc__law_right pm__law_right cd__law_right ct__law_right : Value}
    (a__law_right : PySem.W.nsIn K mainGlobals "_law_right" = some (some (.ref f__law_right))) (l__law_right : K.lookup f__law_right = some ⟨oc__law_right, od__law_right, .func (PySem.W.fnOf "_law_right" "_law_right" (defArgs s__law_right) (defBody s__law_right) (defScope s__law_right) .none kV__law_right dc__law_right pm__law_right an__law_right cd__law_right ct__law_right), sl__law_right⟩) (c__law_right : PySem.W.codeIn K cd__law_right "_law_right" = true) (k__law_right : PySem.W.keepIn K (.ref f__law_right) = true)
    {f_law : Addr} {od_law an_law : Option Addr} {sl_law : Array (Option Value)} {oc_law kV_law dc_law pm_law cd_law ct_law : Value}
    (a_law : PySem.W.nsIn K mainGlobals "law" = some (some (.ref f_law))) (l_law : K.lookup f_law = some ⟨oc_law, od_law, .func (PySem.W.fnOf "law" "law" (defArgs s_law) (defBody s_law) (defScope s_law) .none kV_law dc_law pm_law an_law cd_law ct_law), sl_law⟩) (c_law : PySem.W.codeIn K cd_law "law" = true) (k_law : PySem.W.keepIn K (.ref f_law) = true)
    {f_Plain__told : Addr} {od_Plain__told an_Plain__told : Option Addr} {sl_Plain__told : Array (Option Value)} {oc_Plain__told kV_Plain__told dc_Plain__told pm_Plain__told cd_Plain__told ct_Plain__told : Value}
    (a_Plain__told : PySem.W.findIn K (.ref C_Plain) "told" = some (some (.ref f_Plain__told))) (fn_Plain__told : PySem.W.isFn K (.ref f_Plain__told) = true) (l_Plain__told : K.lookup f_Plain__told = some ⟨oc_Plain__told, od_Plain__told, .func (PySem.W.fnOf "told" "Plain.told" (defArgs s_Plain__told) (defBody s_Plain__told) (defScope s_Plain__told) .none kV_Plain__told dc_Plain__told pm_Plain__told an_Plain__told cd_Plain__told ct_Plain__told), sl_Plain__told⟩) (c_Plain__told : PySem.W.codeIn K cd_Plain__told "Plain.told" = true) (k_Plain__told : PySem.W.keepIn K (.ref f_Plain__told) = true)
    {f_Plain__needs : Addr} {od_Plain__needs an_Plain__needs : Option Addr} {sl_Plain__needs : Array (Option Value)} {oc_Plain__needs kV_Plain__needs dc_Plain__needs pm_Plain__needs cd_Plain__needs ct_Plain__needs : Value}
    (a_Plain__needs : PySem.W.findIn K (.ref C_Plain) "needs" = some (some (.ref f_Plain__needs))) (fn_Plain__needs : PySem.W.isFn K (.ref f_Plain__needs) = true) (l_Plain__needs : K.lookup f_Plain__needs = some ⟨oc_Plain__needs, od_Plain__needs, .func (PySem.W.fnOf "needs" "Rule.needs" (defArgs s_Plain__needs) (defBody s_Plain__needs) (defScope s_Plain__needs) .none kV_Plain__needs dc_Plain__needs pm_Plain__needs an_Plain__needs cd_Plain__needs ct_Plain__needs), sl_Plain__needs⟩) (c_Plain__needs : PySem.W.codeIn K cd_Plain__needs "Rule.needs" = true) (k_Plain__needs : PySem.W.keepIn K (.ref f_Plain__needs) = true)
    {f_Plain__value : Addr} {od_Plain__value an_Plain__value : Option Addr} {sl_Plain__value : Array (Option Value)} {oc_Plain__value kV_Plain__value dc_Plain__value pm_Plain__value cd_Plain__value ct_Plain__value : Value}
    (a_Plain__value : PySem.W.findIn K (.ref C_Plain) "value" = some (some (.ref f_Plain__value))) (fn_Plain__value : PySem.W.isFn K (.ref f_Plain__value) = true) (l_Plain__value : K.lookup f_Plain__value = some ⟨oc_Plain__value, od_Plain__value, .func (PySem.W.fnOf "value" "Plain.value" (defArgs s_Plain__value) (defBody s_Plain__value) (defScope s_Plain__value) .none kV_Plain__value dc_Plain__value pm_Plain__value an_Plain__value cd_Plain__value ct_Plain__value), sl_Plain__value⟩) (c_Plain__value : PySem.W.codeIn K cd_Plain__value "Plain.value" = true) (k_Plain__value : PySem.W.keepIn K (.ref f_Plain__value) = true)
    {f_Plain____str__ : Addr} {od_Plain____str__ an_Plain____str__ : Option Addr} {sl_Plain____str__ : Array (Option Value)} {oc_Plain____str__ kV_Plain____str__ dc_Plain____str__ pm_Plain____str__ cd_Plain____str__ ct_Plain____str__ : Value}
    (a_Plain____str__ : PySem.W.findIn K (.ref C_Plain) "__str__" = some (some (.ref f_Plain____str__))) (fn_Plain____str__ : PySem.W.isFn K (.ref f_Plain____str__) = true) (l_Plain____str__ : K.lookup f_Plain____str__ = some ⟨oc_Plain____str__, od_Plain____str__, .func (PySem.W.fnOf "__str__" "Plain.__str__" (defArgs s_Plain____str__) (defBody s_Plain____str__) (defScope s_Plain____str__) .none kV_Plain____str__ dc_Plain____str__ pm_Plain____str__ an_Plain____str__ cd_Plain____str__ ct_Plain____str__), sl_Plain____str__⟩) (c_Plain____str__ : PySem.W.codeIn K cd_Plain____str__ "Plain.__str__" = true) (k_Plain____str__ : PySem.W.keepIn K (.ref f_Plain____str__) = true)
    {f_Plain____init__ : Addr} {od_Plain____init__ an_Plain____init__ : Option Addr} {sl_Plain____init__ : Array (Option Value)} {oc_Plain____init__ kV_Plain____init__ dc_Plain____init__ pm_Plain____init__ cd_Plain____init__ ct_Plain____init__ : Value}
    (a_Plain____init__ : PySem.W.findIn K (.ref C_Plain) "__init__" = some (some (.ref f_Plain____init__))) (fn_Plain____init__ : PySem.W.isFn K (.ref f_Plain____init__) = true) (l_Plain____init__ : K.lookup f_Plain____init__ = some ⟨oc_Plain____init__, od_Plain____init__, .func (PySem.W.fnOf "__init__" "Plain.__init__" (defArgs s_Plain____init__) (defBody s_Plain____init__) (defScope s_Plain____init__) .none kV_Plain____init__ dc_Plain____init__ pm_Plain____init__ an_Plain____init__ cd_Plain____init__ ct_Plain____init__), sl_Plain____init__⟩) (c_Plain____init__ : PySem.W.codeIn K cd_Plain____init__ "Plain.__init__" = true) (k_Plain____init__ : PySem.W.keepIn K (.ref f_Plain____init__) = true)
    {f_Moved__told : Addr} {od_Moved__told an_Moved__told : Option Addr} {sl_Moved__told : Array (Option Value)} {oc_Moved__told kV_Moved__told dc_Moved__told pm_Moved__told cd_Moved__told ct_Moved__told : Value}
    (a_Moved__told : PySem.W.findIn K (.ref C_Moved) "told" = some (some (.ref f_Moved__told))) (fn_Moved__told : PySem.W.isFn K (.ref f_Moved__told) = true) (l_Moved__told : K.lookup f_Moved__told = some ⟨oc_Moved__told, od_Moved__told, .func (PySem.W.fnOf "told" "Moved.told" (defArgs s_Moved__told) (defBody s_Moved__told) (defScope s_Moved__told) .none kV_Moved__told dc_Moved__told pm_Moved__told an_Moved__told cd_Moved__told ct_Moved__told), sl_Moved__told⟩) (c_Moved__told : PySem.W.codeIn K cd_Moved__told "Moved.told" = true) (k_Moved__told : PySem.W.keepIn K (.ref f_Moved__told) = true)
    {f_Moved__needs : Addr} {od_Moved__needs an_Moved__needs : Option Addr} {sl_Moved__needs : Array (Option Value)} {oc_Moved__needs kV_Moved__needs dc_Moved__needs pm_Moved__needs cd_Moved__needs ct_Moved__needs : Value}
    (a_Moved__needs : PySem.W.findIn K (.ref C_Moved) "needs" = some (some (.ref f_Moved__needs))) (fn_Moved__needs : PySem.W.isFn K (.ref f_Moved__needs) = true) (l_Moved__needs : K.lookup f_Moved__needs = some ⟨oc_Moved__needs, od_Moved__needs, .func (PySem.W.fnOf "needs" "Moved.needs" (defArgs s_Moved__needs) (defBody s_Moved__needs) (defScope s_Moved__needs) .none kV_Moved__needs dc_Moved__needs pm_Moved__needs an_Moved__needs cd_Moved__needs ct_Moved__needs), sl_Moved__needs⟩) (c_Moved__needs : PySem.W.codeIn K cd_Moved__needs "Moved.needs" = true) (k_Moved__needs : PySem.W.keepIn K (.ref f_Moved__needs) = true)
    {f_Moved__value : Addr} {od_Moved__value an_Moved__value : Option Addr} {sl_Moved__value : Array (Option Value)} {oc_Moved__value kV_Moved__value dc_Moved__value pm_Moved__value cd_Moved__value ct_Moved__value : Value}
    (a_Moved__value : PySem.W.findIn K (.ref C_Moved) "value" = some (some (.ref f_Moved__value))) (fn_Moved__value : PySem.W.isFn K (.ref f_Moved__value) = true) (l_Moved__value : K.lookup f_Moved__value = some ⟨oc_Moved__value, od_Moved__value, .func (PySem.W.fnOf "value" "Moved.value" (defArgs s_Moved__value) (defBody s_Moved__value) (defScope s_Moved__value) .none kV_Moved__value dc_Moved__value pm_Moved__value an_Moved__value cd_Moved__value ct_Moved__value), sl_Moved__value⟩) (c_Moved__value : PySem.W.codeIn K cd_Moved__value "Moved.value" = true) (k_Moved__value : PySem.W.keepIn K (.ref f_Moved__value) = true)
    {f_Moved____str__ : Addr} {od_Moved____str__ an_Moved____str__ : Option Addr} {sl_Moved____str__ : Array (Option Value)} {oc_Moved____str__ kV_Moved____str__ dc_Moved____str__ pm_Moved____str__ cd_Moved____str__ ct_Moved____str__ : Value}
    (a_Moved____str__ : PySem.W.findIn K (.ref C_Moved) "__str__" = some (some (.ref f_Moved____str__))) (fn_Moved____str__ : PySem.W.isFn K (.ref f_Moved____str__) = true) (l_Moved____str__ : K.lookup f_Moved____str__ = some ⟨oc_Moved____str__, od_Moved____str__, .func (PySem.W.fnOf "__str__" "Moved.__str__" (defArgs s_Moved____str__) (defBody s_Moved____str__) (defScope s_Moved____str__) .none kV_Moved____str__ dc_Moved____str__ pm_Moved____str__ an_Moved____str__ cd_Moved____str__ ct_Moved____str__), sl_Moved____str__⟩) (c_Moved____str__ : PySem.W.codeIn K cd_Moved____str__ "Moved.__str__" = true) (k_Moved____str__ : PySem.W.keepIn K (.ref f_Moved____str__) = true)
    {f_Moved____init__ : Addr} {od_Moved____init__ an_Moved____init__ : Option Addr} {sl_Moved____init__ : Array (Option Value)} {oc_Moved____init__ kV_Moved____init__ dc_Moved____init__ pm_Moved____init__ cd_Moved____init__ ct_Moved____init__ : Value}
    (a_Moved____init__ : PySem.W.findIn K (.ref C_Moved) "__init__" = some (some (.ref f_Moved____init__))) (fn_Moved____init__ : PySem.W.isFn K (.ref f_Moved____init__) = true) (l_Moved____init__ : K.lookup f_Moved____init__ = some ⟨oc_Moved____init__, od_Moved____init__, .func (PySem.W.fnOf "__init__" "Moved.__init__" (defArgs s_Moved____init__) (defBody s_Moved____init__) (defScope s_Moved____init__) .none kV_Moved____init__ dc_Moved____init__ pm_Moved____init__ an_Moved____init__ cd_Moved____init__ ct_Moved____init__), sl_Moved____init__⟩) (c_Moved____init__ : PySem.W.codeIn K cd_Moved____init__ "Moved.__init__" = true) (k_Moved____init__ : PySem.W.keepIn K (.ref f_Moved____init__) = true)
    {f_Mixed__told : Addr} {od_Mixed__told an_Mixed__told : Option Addr} {sl_Mixed__told : Array (Option Value)} {oc_Mixed__told kV_Mixed__told dc_Mixed__told pm_Mixed__told cd_Mixed__told ct_Mixed__told : Value}
    (a_Mixed__told : PySem.W.findIn K (.ref C_Mixed) "told" = some (some (.ref f_Mixed__told))) (fn_Mixed__told : PySem.W.isFn K (.ref f_Mixed__told) = true) (l_Mixed__told : K.lookup f_Mixed__told = some ⟨oc_Mixed__told, od_Mixed__told, .func (PySem.W.fnOf "told" "Mixed.told" (defArgs s_Mixed__told) (defBody s_Mixed__told) (defScope s_Mixed__told) .none kV_Mixed__told dc_Mixed__told pm_Mixed__told an_Mixed__told cd_Mixed__told ct_Mixed__told), sl_Mixed__told⟩) (c_Mixed__told : PySem.W.codeIn K cd_Mixed__told "Mixed.told" = true) (k_Mixed__told : PySem.W.keepIn K (.ref f_Mixed__told) = true)
    {f_Mixed__needs : Addr} {od_Mixed__needs an_Mixed__needs : Option Addr} {sl_Mixed__needs : Array (Option Value)} {oc_Mixed__needs kV_Mixed__needs dc_Mixed__needs pm_Mixed__needs cd_Mixed__needs ct_Mixed__needs : Value}
    (a_Mixed__needs : PySem.W.findIn K (.ref C_Mixed) "needs" = some (some (.ref f_Mixed__needs))) (fn_Mixed__needs : PySem.W.isFn K (.ref f_Mixed__needs) = true) (l_Mixed__needs : K.lookup f_Mixed__needs = some ⟨oc_Mixed__needs, od_Mixed__needs, .func (PySem.W.fnOf "needs" "Mixed.needs" (defArgs s_Mixed__needs) (defBody s_Mixed__needs) (defScope s_Mixed__needs) .none kV_Mixed__needs dc_Mixed__needs pm_Mixed__needs an_Mixed__needs cd_Mixed__needs ct_Mixed__needs), sl_Mixed__needs⟩) (c_Mixed__needs : PySem.W.codeIn K cd_Mixed__needs "Mixed.needs" = true) (k_Mixed__needs : PySem.W.keepIn K (.ref f_Mixed__needs) = true)
    {f_Mixed__value : Addr} {od_Mixed__value an_Mixed__value : Option Addr} {sl_Mixed__value : Array (Option Value)} {oc_Mixed__value kV_Mixed__value dc_Mixed__value pm_Mixed__value cd_Mixed__value ct_Mixed__value : Value}
    (a_Mixed__value : PySem.W.findIn K (.ref C_Mixed) "value" = some (some (.ref f_Mixed__value))) (fn_Mixed__value : PySem.W.isFn K (.ref f_Mixed__value) = true) (l_Mixed__value : K.lookup f_Mixed__value = some ⟨oc_Mixed__value, od_Mixed__value, .func (PySem.W.fnOf "value" "Mixed.value" (defArgs s_Mixed__value) (defBody s_Mixed__value) (defScope s_Mixed__value) .none kV_Mixed__value dc_Mixed__value pm_Mixed__value an_Mixed__value cd_Mixed__value ct_Mixed__value), sl_Mixed__value⟩) (c_Mixed__value : PySem.W.codeIn K cd_Mixed__value "Mixed.value" = true) (k_Mixed__value : PySem.W.keepIn K (.ref f_Mixed__value) = true)
    {f_Mixed____str__ : Addr} {od_Mixed____str__ an_Mixed____str__ : Option Addr} {sl_Mixed____str__ : Array (Option Value)} {oc_Mixed____str__ kV_Mixed____str__ dc_Mixed____str__ pm_Mixed____str__ cd_Mixed____str__ ct_Mixed____str__ : Value}
    (a_Mixed____str__ : PySem.W.findIn K (.ref C_Mixed) "__str__" = some (some (.ref f_Mixed____str__))) (fn_Mixed____str__ : PySem.W.isFn K (.ref f_Mixed____str__) = true) (l_Mixed____str__ : K.lookup f_Mixed____str__ = some ⟨oc_Mixed____str__, od_Mixed____str__, .func (PySem.W.fnOf "__str__" "Mixed.__str__" (defArgs s_Mixed____str__) (defBody s_Mixed____str__) (defScope s_Mixed____str__) .none kV_Mixed____str__ dc_Mixed____str__ pm_Mixed____str__ an_Mixed____str__ cd_Mixed____str__ ct_Mixed____str__), sl_Mixed____str__⟩) (c_Mixed____str__ : PySem.W.codeIn K cd_Mixed____str__ "Mixed.__str__" = true) (k_Mixed____str__ : PySem.W.keepIn K (.ref f_Mixed____str__) = true)
    {f_Mixed____init__ : Addr} {od_Mixed____init__ an_Mixed____init__ : Option Addr} {sl_Mixed____init__ : Array (Option Value)} {oc_Mixed____init__ kV_Mixed____init__ dc_Mixed____init__ pm_Mixed____init__ cd_Mixed____init__ ct_Mixed____init__ : Value}
    (a_Mixed____init__ : PySem.W.findIn K (.ref C_Mixed) "__init__" = some (some (.ref f_Mixed____init__))) (fn_Mixed____init__ : PySem.W.isFn K (.ref f_Mixed____init__) = true) (l_Mixed____init__ : K.lookup f_Mixed____init__ = some ⟨oc_Mixed____init__, od_Mixed____init__, .func (PySem.W.fnOf "__init__" "Mixed.__init__" (defArgs s_Mixed____init__) (defBody s_Mixed____init__) (defScope s_Mixed____init__) .none kV_Mixed____init__ dc_Mixed____init__ pm_Mixed____init__ an_Mixed____init__ cd_Mixed____init__ ct_Mixed____init__), sl_Mixed____init__⟩) (c_Mixed____init__ : PySem.W.codeIn K cd_Mixed____init__ "Mixed.__init__" = true) (k_Mixed____init__ : PySem.W.keepIn K (.ref f_Mixed____init__) = true)
    {C_NoRule : Addr}
    (xca_NoRule : PySem.W.nsIn K mainGlobals "NoRule" = some (some (.ref C_NoRule)))
    (xchg_NoRule : PySem.W.findIn K (.ref C_NoRule) "__getattribute__" = some (some (.builtin "BaseException.__getattribute__")))
    (xchk_NoRule : PySem.W.findIn K (.ref C_NoRule) "__getattr__" = some none)
    (xchs_NoRule : PySem.W.subIn K (.ref C_NoRule) (.type "BaseException") = some true)
    (xchd_NoRule : PySem.W.hasDictIn K C_NoRule = true)
    (xcha_NoRule : PySem.W.findIn K (.ref C_NoRule) "__class__" = some (some (.builtin "object.__class__")))
    (xchm_NoRule : PySem.W.mroIn K C_NoRule (.type "object") = some true)
    (xcty_NoRule : PySem.W.typeIn K (.ref C_NoRule) = some (.type "type"))
    (xckp_NoRule : PySem.W.keepIn K (.ref C_NoRule) = true)
    (xcve_NoRule : PySem.W.subIn K (.ref C_NoRule) (.type "ValueError") = some true)
    (xcis_NoRule : PySem.W.isClsIn K C_NoRule = true)
    (xcself_NoRule : PySem.W.subIn K (.ref C_NoRule) (.ref C_NoRule) = some true)
    (xcex_NoRule : PySem.W.excIn K C_NoRule [.type "ValueError", .type "Exception", .type "BaseException", .type "object"] "ValueError.__new__" = true)
    (xhn : PySem.W.specialIn K (.builtin "object.__class__") "__get__" = some (some (.builtin "getset_descriptor.__get__"))) (xht : PySem.W.takesIn K (.builtin "object.__class__") = some true)
    (z_isinstance : PySem.W.nsIn K mainGlobals "isinstance" = some none)
    (z_int : PySem.W.nsIn K mainGlobals "int" = some none)
    (z_bool : PySem.W.nsIn K mainGlobals "bool" = some none)
    (z_tuple : PySem.W.nsIn K mainGlobals "tuple" = some none)
    (z_len : PySem.W.nsIn K mainGlobals "len" = some none)
    (z_str : PySem.W.nsIn K mainGlobals "str" = some none)
    (z_all : PySem.W.nsIn K mainGlobals "all" = some none)
    (z_list : PySem.W.nsIn K mainGlobals "list" = some none)
    (z_zip : PySem.W.nsIn K mainGlobals "zip" = some none)
    (z_sum : PySem.W.nsIn K mainGlobals "sum" = some none)
    : ∃ fd : FuncData, (∀ (s : Shared) (v : Value), BindsTo s fd ⟨[v], []⟩ [("_law_script", v)]) ∧ ∀ base : Heap, K.In base → base.Ns mainGlobals mg → FnOk l.prog w K mg base CX0 5 fa fd ["_law_script"] (spTop K) := by
  have e := hfa.symm.trans (PySem.W.mg_of X G a_law)
  cases e
  have F_is_whole := fun_mk (st := s_is_whole) l_is_whole c_is_whole k_is_whole
  have b_is_whole := F_is_whole.binds (ps := ["thing", "low", "high"]) fun _ _ _ _ _ _ us hl => match us, hl with | [_, _, _], _ => rfl
  have g_is_whole := PySem.W.mg_of X G a_is_whole
  have F_is_need := fun_mk (st := s_is_need) l_is_need c_is_need k_is_need
  have b_is_need := F_is_need.binds (ps := ["back", "cell"]) fun _ _ _ _ _ _ us hl => match us, hl with | [_, _], _ => rfl
  have g_is_need := PySem.W.mg_of X G a_is_need
  have F_rule_of := fun_mk (st := s_rule_of) l_rule_of c_rule_of k_rule_of
  have b_rule_of := F_rule_of.binds (ps := ["told"]) fun _ _ _ _ _ _ us hl => match us, hl with | [_], _ => rfl
  have g_rule_of := PySem.W.mg_of X G a_rule_of
  have F__law_cell_at := fun_mk (st := s__law_cell_at) l__law_cell_at c__law_cell_at k__law_cell_at
  have b__law_cell_at := F__law_cell_at.binds (ps := ["_law_script", "_law_k"]) fun _ _ _ _ _ _ us hl => match us, hl with | [_, _], _ => rfl
  have g__law_cell_at := PySem.W.mg_of X G a__law_cell_at
  have F__law_well := fun_mk (st := s__law_well) l__law_well c__law_well k__law_well
  have b__law_well := F__law_well.binds (ps := ["_law_script", "_law_k"]) fun _ _ _ _ _ _ us hl => match us, hl with | [_, _], _ => rfl
  have g__law_well := PySem.W.mg_of X G a__law_well
  have F__law_draw := fun_mk (st := s__law_draw) l__law_draw c__law_draw k__law_draw
  have b__law_draw := F__law_draw.binds (ps := ["_law_well_here", "_law_many"]) fun _ _ _ _ _ _ us hl => match us, hl with | [_, _], _ => rfl
  have g__law_draw := PySem.W.mg_of X G a__law_draw
  have F__law_whole := fun_mk (st := s__law_whole) l__law_whole c__law_whole k__law_whole
  have b__law_whole := F__law_whole.binds (ps := ["_law_thing"]) fun _ _ _ _ _ _ us hl => match us, hl with | [_], _ => rfl
  have g__law_whole := PySem.W.mg_of X G a__law_whole
  have F__law_edge := fun_mk (st := s__law_edge) l__law_edge c__law_edge k__law_edge
  have b__law_edge := F__law_edge.binds (ps := ["_law_well_here", "_law_low", "_law_high"]) fun _ _ _ _ _ _ us hl => match us, hl with | [_, _, _], _ => rfl
  have g__law_edge := PySem.W.mg_of X G a__law_edge
  have F__law_rule := fun_mk (st := s__law_rule) l__law_rule c__law_rule k__law_rule
  have b__law_rule := F__law_rule.binds (ps := ["_law_well_here"]) fun _ _ _ _ _ _ us hl => match us, hl with | [_], _ => rfl
  have g__law_rule := PySem.W.mg_of X G a__law_rule
  have F__law_needs := fun_mk (st := s__law_needs) l__law_needs c__law_needs k__law_needs
  have b__law_needs := F__law_needs.binds (ps := ["_law_row"]) fun _ _ _ _ _ _ us hl => match us, hl with | [_], _ => rfl
  have g__law_needs := PySem.W.mg_of X G a__law_needs
  have F__law_worth := fun_mk (st := s__law_worth) l__law_worth c__law_worth k__law_worth
  have b__law_worth := F__law_worth.binds (ps := ["_law_row", "_law_found"]) fun _ _ _ _ _ _ us hl => match us, hl with | [_, _], _ => rfl
  have g__law_worth := PySem.W.mg_of X G a__law_worth
  have F__law_word := fun_mk (st := s__law_word) l__law_word c__law_word k__law_word
  have b__law_word := F__law_word.binds (ps := ["_law_row"]) fun _ _ _ _ _ _ us hl => match us, hl with | [_], _ => rfl
  have g__law_word := PySem.W.mg_of X G a__law_word
  have F__law_by_name := fun_mk (st := s__law_by_name) l__law_by_name c__law_by_name k__law_by_name
  have b__law_by_name := F__law_by_name.binds (ps := ["_law_row"]) fun _ _ _ _ _ _ us hl => match us, hl with | [_], _ => rfl
  have g__law_by_name := PySem.W.mg_of X G a__law_by_name
  have F__law_of_its_class := fun_mk (st := s__law_of_its_class) l__law_of_its_class c__law_of_its_class k__law_of_its_class
  have b__law_of_its_class := F__law_of_its_class.binds (ps := ["_law_rule_here", "_law_row"]) fun _ _ _ _ _ _ us hl => match us, hl with | [_, _], _ => rfl
  have g__law_of_its_class := PySem.W.mg_of X G a__law_of_its_class
  have F__law_numbers := fun_mk (st := s__law_numbers) l__law_numbers c__law_numbers k__law_numbers
  have b__law_numbers := F__law_numbers.binds (ps := ["_law_row", "_law_wanted"]) fun _ _ _ _ _ _ us hl => match us, hl with | [_, _], _ => rfl
  have g__law_numbers := PySem.W.mg_of X G a__law_numbers
  have F__law_pairs := fun_mk (st := s__law_pairs) l__law_pairs c__law_pairs k__law_pairs
  have b__law_pairs := F__law_pairs.binds (ps := ["_law_found", "_law_wanted"]) fun _ _ _ _ _ _ us hl => match us, hl with | [_, _], _ => rfl
  have g__law_pairs := PySem.W.mg_of X G a__law_pairs
  have F__law_right := fun_mk (st := s__law_right) l__law_right c__law_right k__law_right
  have b__law_right := F__law_right.binds (ps := ["_law_rule_here", "_law_row", "_law_worths"]) fun _ _ _ _ _ _ us hl => match us, hl with | [_, _, _], _ => rfl
  have g__law_right := PySem.W.mg_of X G a__law_right
  have F_law := fun_mk (st := s_law) l_law c_law k_law
  have b_law := F_law.binds (ps := ["_law_script"]) fun _ _ _ _ _ _ us hl => match us, hl with | [_], _ => rfl
  have g_law := PySem.W.mg_of X G a_law
  have F_Plain__told := fun_mk (st := s_Plain__told) l_Plain__told c_Plain__told k_Plain__told
  have b_Plain__told := F_Plain__told.binds (ps := ["self"]) fun _ _ _ _ _ _ us hl => match us, hl with | [_], _ => rfl
  have F_Plain__needs := fun_mk (st := s_Plain__needs) l_Plain__needs c_Plain__needs k_Plain__needs
  have b_Plain__needs := F_Plain__needs.binds (ps := ["self"]) fun _ _ _ _ _ _ us hl => match us, hl with | [_], _ => rfl
  have F_Plain__value := fun_mk (st := s_Plain__value) l_Plain__value c_Plain__value k_Plain__value
  have b_Plain__value := F_Plain__value.binds (ps := ["self", "found"]) fun _ _ _ _ _ _ us hl => match us, hl with | [_, _], _ => rfl
  have F_Plain____str__ := fun_mk (st := s_Plain____str__) l_Plain____str__ c_Plain____str__ k_Plain____str__
  have b_Plain____str__ := F_Plain____str__.binds (ps := ["self"]) fun _ _ _ _ _ _ us hl => match us, hl with | [_], _ => rfl
  have F_Plain____init__ := fun_mk (st := s_Plain____init__) l_Plain____init__ c_Plain____init__ k_Plain____init__
  have b_Plain____init__ := F_Plain____init__.binds (ps := ["self", "value"]) fun _ _ _ _ _ _ us hl => match us, hl with | [_, _], _ => rfl
  have F_Moved__told := fun_mk (st := s_Moved__told) l_Moved__told c_Moved__told k_Moved__told
  have b_Moved__told := F_Moved__told.binds (ps := ["self"]) fun _ _ _ _ _ _ us hl => match us, hl with | [_], _ => rfl
  have F_Moved__needs := fun_mk (st := s_Moved__needs) l_Moved__needs c_Moved__needs k_Moved__needs
  have b_Moved__needs := F_Moved__needs.binds (ps := ["self"]) fun _ _ _ _ _ _ us hl => match us, hl with | [_], _ => rfl
  have F_Moved__value := fun_mk (st := s_Moved__value) l_Moved__value c_Moved__value k_Moved__value
  have b_Moved__value := F_Moved__value.binds (ps := ["self", "found"]) fun _ _ _ _ _ _ us hl => match us, hl with | [_, _], _ => rfl
  have F_Moved____str__ := fun_mk (st := s_Moved____str__) l_Moved____str__ c_Moved____str__ k_Moved____str__
  have b_Moved____str__ := F_Moved____str__.binds (ps := ["self"]) fun _ _ _ _ _ _ us hl => match us, hl with | [_], _ => rfl
  have F_Moved____init__ := fun_mk (st := s_Moved____init__) l_Moved____init__ c_Moved____init__ k_Moved____init__
  have b_Moved____init__ := F_Moved____init__.binds (ps := ["self", "back", "cell", "add"]) fun _ _ _ _ _ _ us hl => match us, hl with | [_, _, _, _], _ => rfl
  have F_Mixed__told := fun_mk (st := s_Mixed__told) l_Mixed__told c_Mixed__told k_Mixed__told
  have b_Mixed__told := F_Mixed__told.binds (ps := ["self"]) fun _ _ _ _ _ _ us hl => match us, hl with | [_], _ => rfl
  have F_Mixed__needs := fun_mk (st := s_Mixed__needs) l_Mixed__needs c_Mixed__needs k_Mixed__needs
  have b_Mixed__needs := F_Mixed__needs.binds (ps := ["self"]) fun _ _ _ _ _ _ us hl => match us, hl with | [_], _ => rfl
  have F_Mixed__value := fun_mk (st := s_Mixed__value) l_Mixed__value c_Mixed__value k_Mixed__value
  have b_Mixed__value := F_Mixed__value.binds (ps := ["self", "found"]) fun _ _ _ _ _ _ us hl => match us, hl with | [_, _], _ => rfl
  have F_Mixed____str__ := fun_mk (st := s_Mixed____str__) l_Mixed____str__ c_Mixed____str__ k_Mixed____str__
  have b_Mixed____str__ := F_Mixed____str__.binds (ps := ["self"]) fun _ _ _ _ _ _ us hl => match us, hl with | [_], _ => rfl
  have F_Mixed____init__ := fun_mk (st := s_Mixed____init__) l_Mixed____init__ c_Mixed____init__ k_Mixed____init__
  have b_Mixed____init__ := F_Mixed____init__.binds (ps := ["self", "back", "cell", "other_back", "other_cell"]) fun _ _ _ _ _ _ us hl => match us, hl with | [_, _, _, _, _], _ => rfl
  have T_Plain : KI K mg "Plain" C_Plain := ⟨⟨kca_Plain, ⟨kcpg_Plain, kchd_Plain, kcpo_Plain, kcsa_Plain⟩, kcha_Plain, xhn, xht, kchm_Plain, bt_of kctbool_Plain kctint_Plain kctstr_Plain kctlist_Plain kcttuple_Plain kctdict_Plain⟩, PySem.W.mg_of X G kca_Plain, kcty_Plain, kcis_Plain, kcself_Plain⟩
  have T_Moved : KI K mg "Moved" C_Moved := ⟨⟨kca_Moved, ⟨kcpg_Moved, kchd_Moved, kcpo_Moved, kcsa_Moved⟩, kcha_Moved, xhn, xht, kchm_Moved, bt_of kctbool_Moved kctint_Moved kctstr_Moved kctlist_Moved kcttuple_Moved kctdict_Moved⟩, PySem.W.mg_of X G kca_Moved, kcty_Moved, kcis_Moved, kcself_Moved⟩
  have T_Mixed : KI K mg "Mixed" C_Mixed := ⟨⟨kca_Mixed, ⟨kcpg_Mixed, kchd_Mixed, kcpo_Mixed, kcsa_Mixed⟩, kcha_Mixed, xhn, xht, kchm_Mixed, bt_of kctbool_Mixed kctint_Mixed kctstr_Mixed kctlist_Mixed kcttuple_Mixed kctdict_Mixed⟩, PySem.W.mg_of X G kca_Mixed, kcty_Mixed, kcis_Mixed, kcself_Mixed⟩
  have T_Rule : KI K mg "Rule" C_Rule := ⟨⟨kca_Rule, ⟨kcpg_Rule, kchd_Rule, kcpo_Rule, kcsa_Rule⟩, kcha_Rule, xhn, xht, kchm_Rule, bt_of kctbool_Rule kctint_Rule kctstr_Rule kctlist_Rule kcttuple_Rule kctdict_Rule⟩, PySem.W.mg_of X G kca_Rule, kcty_Rule, kcis_Rule, kcself_Rule⟩
  have M_Plain : L2.Mk K C_Plain f_Plain____init__ := ⟨kcmk_Plain, a_Plain____init__, fn_Plain____init__, kckp_Plain⟩
  have lo_Plain : LaysOk K C_Plain ["worth"] := ⟨n_Plain_worth, trivial⟩
  have bi_Plain := b_Plain____init__
  have M_Moved : L2.Mk K C_Moved f_Moved____init__ := ⟨kcmk_Moved, a_Moved____init__, fn_Moved____init__, kckp_Moved⟩
  have lo_Moved : LaysOk K C_Moved ["back", "cell", "add"] := ⟨n_Moved_back, ⟨n_Moved_cell, ⟨n_Moved_add, trivial⟩⟩⟩
  have bi_Moved := b_Moved____init__
  have M_Mixed : L2.Mk K C_Mixed f_Mixed____init__ := ⟨kcmk_Mixed, a_Mixed____init__, fn_Mixed____init__, kckp_Mixed⟩
  have lo_Mixed : LaysOk K C_Mixed ["back", "cell", "other_back", "other_cell"] := ⟨n_Mixed_back, ⟨n_Mixed_cell, ⟨n_Mixed_other_back, ⟨n_Mixed_other_cell, trivial⟩⟩⟩⟩
  have bi_Mixed := b_Mixed____init__
  have T_NoRule : ExcR K mg "NoRule" C_NoRule := ⟨⟨PySem.W.mg_of X G xca_NoRule, ⟨xchg_NoRule, xchk_NoRule, xchs_NoRule, xchd_NoRule, xcha_NoRule, xhn, xht, xchm_NoRule⟩, xcty_NoRule, xckp_NoRule, xcve_NoRule, xcis_NoRule, xcself_NoRule⟩, xcex_NoRule⟩
  have bI_isinstance := PySem.W.mg_none_of X G z_isinstance
  have bI_int := PySem.W.mg_none_of X G z_int
  have bI_bool := PySem.W.mg_none_of X G z_bool
  have bI_tuple := PySem.W.mg_none_of X G z_tuple
  have bI_len := PySem.W.mg_none_of X G z_len
  have bI_str := PySem.W.mg_none_of X G z_str
  have bI_all := PySem.W.mg_none_of X G z_all
  have bI_list := PySem.W.mg_none_of X G z_list
  have bI_zip := PySem.W.mg_none_of X G z_zip
  have bI_sum := PySem.W.mg_none_of X G z_sum
  have kb_Moved____init___2_add : KBinds K (PySem.W.fnOf "__init__" "Moved.__init__" (defArgs s_Moved____init__) (defBody s_Moved____init__) (defScope s_Moved____init__) .none kV_Moved____init__ dc_Moved____init__ pm_Moved____init__ an_Moved____init__ cd_Moved____init__ ct_Moved____init__) ["self", "back", "cell", "add"] ["add"] (fun us ws => match us, ws with | [u0, u1, u2], [w0] => [u0, u1, u2, w0] | _, _ => []) (fun us ws => match us, ws with | [u0, u1, u2], [w0] => [u0, u1, u2, w0] | _, _ => []) := by
    refine F_Moved____init__.kb (fun _ _ _ _ _ _ us ws hl => ?_) (fun {vs us zs ws} r1 r2 => ?_)
    · skip
      cases us with
      | nil => exact absurd (show (0 : Nat) = 4 from hl) (by decide)
      | cons q00 us =>
        cases us with
        | nil => exact absurd (show (0 : Nat) = 4 from hl) (by decide)
        | cons q01 us =>
          cases us with
          | nil => exact absurd (show (0 : Nat) = 4 from hl) (by decide)
          | cons q02 us =>
            cases us with
            | nil =>
              cases ws with
              | nil => exact absurd (show (0 : Nat) = 4 from hl) (by decide)
              | cons q10 ws =>
                cases ws with
                | nil =>
                  rfl
                | cons _ _ => exact absurd (show (0 : Nat) = 4 from hl) (by decide)
            | cons _ _ => exact absurd (show (0 : Nat) = 4 from hl) (by decide)
    · skip
      cases r1 with
      | nil => exact .nil
      | cons q00 r1 =>
        cases r1 with
        | nil => exact .nil
        | cons q01 r1 =>
          cases r1 with
          | nil => exact .nil
          | cons q02 r1 =>
            cases r1 with
            | nil =>
              cases r2 with
              | nil => exact .nil
              | cons q10 r2 =>
                cases r2 with
                | nil =>
                  exact (.cons q00 (.cons q01 (.cons q02 (.cons q10 .nil))))
                | cons _ _ => exact .nil
            | cons _ _ => exact .nil
  have kb_is_need_0_back_cell : KBinds K (PySem.W.fnOf "is_need" "is_need" (defArgs s_is_need) (defBody s_is_need) (defScope s_is_need) .none kV_is_need dc_is_need pm_is_need an_is_need cd_is_need ct_is_need) ["back", "cell"] ["back", "cell"] (fun us ws => match us, ws with | [], [w0, w1] => [w0, w1] | _, _ => []) (fun us ws => match us, ws with | [], [w0, w1] => [w0, w1] | _, _ => []) := by
    refine F_is_need.kb (fun _ _ _ _ _ _ us ws hl => ?_) (fun {vs us zs ws} r1 r2 => ?_)
    · skip
      cases us with
      | nil =>
        cases ws with
        | nil => exact absurd (show (0 : Nat) = 2 from hl) (by decide)
        | cons q10 ws =>
          cases ws with
          | nil => exact absurd (show (0 : Nat) = 2 from hl) (by decide)
          | cons q11 ws =>
            cases ws with
            | nil =>
              rfl
            | cons _ _ => exact absurd (show (0 : Nat) = 2 from hl) (by decide)
      | cons _ _ => exact absurd (show (0 : Nat) = 2 from hl) (by decide)
    · skip
      cases r1 with
      | nil =>
        cases r2 with
        | nil => exact .nil
        | cons q10 r2 =>
          cases r2 with
          | nil => exact .nil
          | cons q11 r2 =>
            cases r2 with
            | nil =>
              exact (.cons q10 (.cons q11 .nil))
            | cons _ _ => exact .nil
      | cons _ _ => exact .nil
  have kb_Mixed____init___2_other_back_other_cell : KBinds K (PySem.W.fnOf "__init__" "Mixed.__init__" (defArgs s_Mixed____init__) (defBody s_Mixed____init__) (defScope s_Mixed____init__) .none kV_Mixed____init__ dc_Mixed____init__ pm_Mixed____init__ an_Mixed____init__ cd_Mixed____init__ ct_Mixed____init__) ["self", "back", "cell", "other_back", "other_cell"] ["other_back", "other_cell"] (fun us ws => match us, ws with | [u0, u1, u2], [w0, w1] => [u0, u1, u2, w0, w1] | _, _ => []) (fun us ws => match us, ws with | [u0, u1, u2], [w0, w1] => [u0, u1, u2, w0, w1] | _, _ => []) := by
    refine F_Mixed____init__.kb (fun _ _ _ _ _ _ us ws hl => ?_) (fun {vs us zs ws} r1 r2 => ?_)
    · skip
      cases us with
      | nil => exact absurd (show (0 : Nat) = 5 from hl) (by decide)
      | cons q00 us =>
        cases us with
        | nil => exact absurd (show (0 : Nat) = 5 from hl) (by decide)
        | cons q01 us =>
          cases us with
          | nil => exact absurd (show (0 : Nat) = 5 from hl) (by decide)
          | cons q02 us =>
            cases us with
            | nil =>
              cases ws with
              | nil => exact absurd (show (0 : Nat) = 5 from hl) (by decide)
              | cons q10 ws =>
                cases ws with
                | nil => exact absurd (show (0 : Nat) = 5 from hl) (by decide)
                | cons q11 ws =>
                  cases ws with
                  | nil =>
                    rfl
                  | cons _ _ => exact absurd (show (0 : Nat) = 5 from hl) (by decide)
            | cons _ _ => exact absurd (show (0 : Nat) = 5 from hl) (by decide)
    · skip
      cases r1 with
      | nil => exact .nil
      | cons q00 r1 =>
        cases r1 with
        | nil => exact .nil
        | cons q01 r1 =>
          cases r1 with
          | nil => exact .nil
          | cons q02 r1 =>
            cases r1 with
            | nil =>
              cases r2 with
              | nil => exact .nil
              | cons q10 r2 =>
                cases r2 with
                | nil => exact .nil
                | cons q11 r2 =>
                  cases r2 with
                  | nil =>
                    exact (.cons q00 (.cons q01 (.cons q02 (.cons q10 (.cons q11 .nil)))))
                  | cons _ _ => exact .nil
            | cons _ _ => exact .nil
  have kb_Mixed____init___2_other_cell_other_back : KBinds K (PySem.W.fnOf "__init__" "Mixed.__init__" (defArgs s_Mixed____init__) (defBody s_Mixed____init__) (defScope s_Mixed____init__) .none kV_Mixed____init__ dc_Mixed____init__ pm_Mixed____init__ an_Mixed____init__ cd_Mixed____init__ ct_Mixed____init__) ["self", "back", "cell", "other_back", "other_cell"] ["other_cell", "other_back"] (fun us ws => match us, ws with | [u0, u1, u2], [w0, w1] => [u0, u1, u2, w1, w0] | _, _ => []) (fun us ws => match us, ws with | [u0, u1, u2], [w0, w1] => [u0, u1, u2, w1, w0] | _, _ => []) := by
    refine F_Mixed____init__.kb (fun _ _ _ _ _ _ us ws hl => ?_) (fun {vs us zs ws} r1 r2 => ?_)
    · skip
      cases us with
      | nil => exact absurd (show (0 : Nat) = 5 from hl) (by decide)
      | cons q00 us =>
        cases us with
        | nil => exact absurd (show (0 : Nat) = 5 from hl) (by decide)
        | cons q01 us =>
          cases us with
          | nil => exact absurd (show (0 : Nat) = 5 from hl) (by decide)
          | cons q02 us =>
            cases us with
            | nil =>
              cases ws with
              | nil => exact absurd (show (0 : Nat) = 5 from hl) (by decide)
              | cons q10 ws =>
                cases ws with
                | nil => exact absurd (show (0 : Nat) = 5 from hl) (by decide)
                | cons q11 ws =>
                  cases ws with
                  | nil =>
                    rfl
                  | cons _ _ => exact absurd (show (0 : Nat) = 5 from hl) (by decide)
            | cons _ _ => exact absurd (show (0 : Nat) = 5 from hl) (by decide)
    · skip
      cases r1 with
      | nil => exact .nil
      | cons q00 r1 =>
        cases r1 with
        | nil => exact .nil
        | cons q01 r1 =>
          cases r1 with
          | nil => exact .nil
          | cons q02 r1 =>
            cases r1 with
            | nil =>
              cases r2 with
              | nil => exact .nil
              | cons q10 r2 =>
                cases r2 with
                | nil => exact .nil
                | cons q11 r2 =>
                  cases r2 with
                  | nil =>
                    exact (.cons q00 (.cons q01 (.cons q02 (.cons q11 (.cons q10 .nil)))))
                  | cons _ _ => exact .nil
            | cons _ _ => exact .nil
  have kb_Plain____init___0_value : KBinds K (PySem.W.fnOf "__init__" "Plain.__init__" (defArgs s_Plain____init__) (defBody s_Plain____init__) (defScope s_Plain____init__) .none kV_Plain____init__ dc_Plain____init__ pm_Plain____init__ an_Plain____init__ cd_Plain____init__ ct_Plain____init__) ["self", "value"] ["value"] (fun us ws => match us, ws with | [u0], [w0] => [u0, w0] | _, _ => []) (fun us ws => match us, ws with | [u0], [w0] => [u0, w0] | _, _ => []) := by
    refine F_Plain____init__.kb (fun _ _ _ _ _ _ us ws hl => ?_) (fun {vs us zs ws} r1 r2 => ?_)
    · skip
      cases us with
      | nil => exact absurd (show (0 : Nat) = 2 from hl) (by decide)
      | cons q00 us =>
        cases us with
        | nil =>
          cases ws with
          | nil => exact absurd (show (0 : Nat) = 2 from hl) (by decide)
          | cons q10 ws =>
            cases ws with
            | nil =>
              rfl
            | cons _ _ => exact absurd (show (0 : Nat) = 2 from hl) (by decide)
        | cons _ _ => exact absurd (show (0 : Nat) = 2 from hl) (by decide)
    · skip
      cases r1 with
      | nil => exact .nil
      | cons q00 r1 =>
        cases r1 with
        | nil =>
          cases r2 with
          | nil => exact .nil
          | cons q10 r2 =>
            cases r2 with
            | nil =>
              exact (.cons q00 (.cons q10 .nil))
            | cons _ _ => exact .nil
        | cons _ _ => exact .nil
  have kb_Moved____init___0_add_back_cell : KBinds K (PySem.W.fnOf "__init__" "Moved.__init__" (defArgs s_Moved____init__) (defBody s_Moved____init__) (defScope s_Moved____init__) .none kV_Moved____init__ dc_Moved____init__ pm_Moved____init__ an_Moved____init__ cd_Moved____init__ ct_Moved____init__) ["self", "back", "cell", "add"] ["add", "back", "cell"] (fun us ws => match us, ws with | [u0], [w0, w1, w2] => [u0, w1, w2, w0] | _, _ => []) (fun us ws => match us, ws with | [u0], [w0, w1, w2] => [u0, w1, w2, w0] | _, _ => []) := by
    refine F_Moved____init__.kb (fun _ _ _ _ _ _ us ws hl => ?_) (fun {vs us zs ws} r1 r2 => ?_)
    · skip
      cases us with
      | nil => exact absurd (show (0 : Nat) = 4 from hl) (by decide)
      | cons q00 us =>
        cases us with
        | nil =>
          cases ws with
          | nil => exact absurd (show (0 : Nat) = 4 from hl) (by decide)
          | cons q10 ws =>
            cases ws with
            | nil => exact absurd (show (0 : Nat) = 4 from hl) (by decide)
            | cons q11 ws =>
              cases ws with
              | nil => exact absurd (show (0 : Nat) = 4 from hl) (by decide)
              | cons q12 ws =>
                cases ws with
                | nil =>
                  rfl
                | cons _ _ => exact absurd (show (0 : Nat) = 4 from hl) (by decide)
        | cons _ _ => exact absurd (show (0 : Nat) = 4 from hl) (by decide)
    · skip
      cases r1 with
      | nil => exact .nil
      | cons q00 r1 =>
        cases r1 with
        | nil =>
          cases r2 with
          | nil => exact .nil
          | cons q10 r2 =>
            cases r2 with
            | nil => exact .nil
            | cons q11 r2 =>
              cases r2 with
              | nil => exact .nil
              | cons q12 r2 =>
                cases r2 with
                | nil =>
                  exact (.cons q00 (.cons q11 (.cons q12 (.cons q10 .nil))))
                | cons _ _ => exact .nil
        | cons _ _ => exact .nil
  have kb_rule_of_0_told : KBinds K (PySem.W.fnOf "rule_of" "rule_of" (defArgs s_rule_of) (defBody s_rule_of) (defScope s_rule_of) .none kV_rule_of dc_rule_of pm_rule_of an_rule_of cd_rule_of ct_rule_of) ["told"] ["told"] (fun us ws => match us, ws with | [], [w0] => [w0] | _, _ => []) (fun us ws => match us, ws with | [], [w0] => [w0] | _, _ => []) := by
    refine F_rule_of.kb (fun _ _ _ _ _ _ us ws hl => ?_) (fun {vs us zs ws} r1 r2 => ?_)
    · skip
      cases us with
      | nil =>
        cases ws with
        | nil => exact absurd (show (0 : Nat) = 1 from hl) (by decide)
        | cons q10 ws =>
          cases ws with
          | nil =>
            rfl
          | cons _ _ => exact absurd (show (0 : Nat) = 1 from hl) (by decide)
      | cons _ _ => exact absurd (show (0 : Nat) = 1 from hl) (by decide)
    · skip
      cases r1 with
      | nil =>
        cases r2 with
        | nil => exact .nil
        | cons q10 r2 =>
          cases r2 with
          | nil =>
            exact (.cons q10 .nil)
          | cons _ _ => exact .nil
      | cons _ _ => exact .nil
  refine ⟨_, fun s v => (.of_eq rfl : BindsTo s (PySem.W.fnOf "law" "law" (defArgs s_law) (defBody s_law) (defScope s_law) .none kV_law dc_law pm_law an_law cd_law ct_law) ⟨[v], []⟩ [("_law_script", v)]), fun base _ _ => ?_⟩
  have G_Plain____init__ := ok_Plain____init__ (Pr := l.prog) (wo := w) (base := base) (mg := mg) F_Plain____init__
  have Gi_Plain := G_Plain____init__
  have G_Moved____init__ := ok_Moved____init__ (Pr := l.prog) (wo := w) (base := base) (mg := mg) F_Moved____init__
  have Gi_Moved := G_Moved____init__
  have G_Mixed____init__ := ok_Mixed____init__ (Pr := l.prog) (wo := w) (base := base) (mg := mg) F_Mixed____init__
  have Gi_Mixed := G_Mixed____init__
  have G_is_whole := ok_is_whole (Pr := l.prog) (wo := w) (base := base) (mg := mg) F_is_whole bI_isinstance bI_int bI_bool
  have G__law_cell_at := ok__law_cell_at (Pr := l.prog) (wo := w) (base := base) (mg := mg) F__law_cell_at bI_len
  have G__law_draw := ok__law_draw (Pr := l.prog) (wo := w) (base := base) (mg := mg) F__law_draw
  have G__law_whole := ok__law_whole (Pr := l.prog) (wo := w) (base := base) (mg := mg) F__law_whole bI_isinstance bI_int bI_bool
  have G__law_needs := ok__law_needs (Pr := l.prog) (wo := w) (base := base) (mg := mg) F__law_needs
  have G__law_worth := ok__law_worth (Pr := l.prog) (wo := w) (base := base) (mg := mg) F__law_worth
  have G__law_word := ok__law_word (Pr := l.prog) (wo := w) (base := base) (mg := mg) F__law_word bI_str
  have G__law_of_its_class := ok__law_of_its_class (Pr := l.prog) (wo := w) (base := base) (mg := mg) F__law_of_its_class T_Rule T_Mixed T_Moved T_Plain p_Plain_Rule p_Moved_Rule p_Mixed_Rule p_Plain_Plain p_Moved_Plain p_Mixed_Plain p_Plain_Moved p_Moved_Moved p_Mixed_Moved p_Plain_Mixed p_Moved_Mixed p_Mixed_Mixed bI_isinstance
  have G_Plain__told := ok_Plain__told (Pr := l.prog) (wo := w) (base := base) (mg := mg) F_Plain__told T_Plain n_Plain_worth
  have G_Plain__needs := ok_Plain__needs (Pr := l.prog) (wo := w) (base := base) (mg := mg) F_Plain__needs
  have G_Plain__value := ok_Plain__value (Pr := l.prog) (wo := w) (base := base) (mg := mg) F_Plain__value T_Plain n_Plain_worth
  have G_Plain____str__ := ok_Plain____str__ (Pr := l.prog) (wo := w) (base := base) (mg := mg) F_Plain____str__ T_Plain n_Plain_worth bI_str
  have G_Moved__told := ok_Moved__told (Pr := l.prog) (wo := w) (base := base) (mg := mg) F_Moved__told T_Moved n_Moved_back n_Moved_cell n_Moved_add
  have G_Moved__needs := ok_Moved__needs (Pr := l.prog) (wo := w) (base := base) (mg := mg) F_Moved__needs T_Moved n_Moved_back n_Moved_cell
  have G_Moved__value := ok_Moved__value (Pr := l.prog) (wo := w) (base := base) (mg := mg) F_Moved__value T_Moved n_Moved_add
  have G_Moved____str__ := ok_Moved____str__ (Pr := l.prog) (wo := w) (base := base) (mg := mg) F_Moved____str__ T_Moved n_Moved_back n_Moved_cell n_Moved_add
  have G_Mixed__told := ok_Mixed__told (Pr := l.prog) (wo := w) (base := base) (mg := mg) F_Mixed__told T_Mixed n_Mixed_back n_Mixed_cell n_Mixed_other_back n_Mixed_other_cell
  have G_Mixed__needs := ok_Mixed__needs (Pr := l.prog) (wo := w) (base := base) (mg := mg) F_Mixed__needs T_Mixed n_Mixed_back n_Mixed_cell n_Mixed_other_back n_Mixed_other_cell
  have G_Mixed__value := ok_Mixed__value (Pr := l.prog) (wo := w) (base := base) (mg := mg) F_Mixed__value bI_sum
  have G_Mixed____str__ := ok_Mixed____str__ (Pr := l.prog) (wo := w) (base := base) (mg := mg) F_Mixed____str__ T_Mixed n_Mixed_back n_Mixed_cell n_Mixed_other_back n_Mixed_other_cell
  have G_is_need := ok_is_need (Pr := l.prog) (wo := w) (base := base) (mg := mg) F_is_need g_is_whole k_is_whole b_is_whole G_is_whole
  have G__law_well := ok__law_well (Pr := l.prog) (wo := w) (base := base) (mg := mg) F__law_well g__law_cell_at k__law_cell_at b__law_cell_at G__law_cell_at
  have G__law_edge := ok__law_edge (Pr := l.prog) (wo := w) (base := base) (mg := mg) F__law_edge g__law_draw k__law_draw b__law_draw G__law_draw
  have G__law_numbers := ok__law_numbers (Pr := l.prog) (wo := w) (base := base) (mg := mg) F__law_numbers g__law_whole k__law_whole b__law_whole G__law_whole bI_all bI_isinstance bI_tuple bI_str
  have G_rule_of := ok_rule_of (Pr := l.prog) (wo := w) (base := base) (mg := mg) F_rule_of T_NoRule T_Plain T_Moved T_Mixed M_Plain lo_Plain bi_Plain Gi_Plain M_Moved lo_Moved bi_Moved Gi_Moved M_Mixed lo_Mixed bi_Mixed Gi_Mixed g_is_whole k_is_whole b_is_whole G_is_whole g_is_need k_is_need b_is_need G_is_need kb_is_need_0_back_cell bI_isinstance bI_tuple bI_len kb_Moved____init___2_add kb_Mixed____init___2_other_back_other_cell
  have G__law_rule := ok__law_rule (Pr := l.prog) (wo := w) (base := base) (mg := mg) F__law_rule g__law_draw k__law_draw b__law_draw G__law_draw g__law_edge k__law_edge b__law_edge G__law_edge
  have G__law_by_name := ok__law_by_name (Pr := l.prog) (wo := w) (base := base) (mg := mg) F__law_by_name T_Plain T_Moved T_Mixed M_Plain lo_Plain bi_Plain Gi_Plain M_Moved lo_Moved bi_Moved Gi_Moved M_Mixed lo_Mixed bi_Mixed Gi_Mixed kb_Mixed____init___2_other_cell_other_back kb_Plain____init___0_value kb_Moved____init___0_add_back_cell
  have G__law_pairs := ok__law_pairs (Pr := l.prog) (wo := w) (base := base) (mg := mg) F__law_pairs g__law_numbers k__law_numbers b__law_numbers G__law_numbers bI_all bI_isinstance bI_list bI_len bI_zip
  have L_Rule__told : ∀ C sp, A_Rule__told K mg C_Plain C_Moved C_Mixed C sp → MAlt l.prog w K mg base CX0 1 "told" C sp := by
    rintro C sp (⟨rfl, rfl⟩ | ⟨rfl, rfl⟩ | ⟨rfl, rfl⟩)
    · exact ⟨_, _, _, T_Plain.c, ⟨a_Plain__told, fn_Plain__told, k_Plain__told⟩, G_Plain__told.mono (by decide), b_Plain__told⟩
    · exact ⟨_, _, _, T_Moved.c, ⟨a_Moved__told, fn_Moved__told, k_Moved__told⟩, G_Moved__told.mono (by decide), b_Moved__told⟩
    · exact ⟨_, _, _, T_Mixed.c, ⟨a_Mixed__told, fn_Mixed__told, k_Mixed__told⟩, G_Mixed__told.mono (by decide), b_Mixed__told⟩
  have L_Rule__needs : ∀ C sp, A_Rule__needs K mg C_Plain C_Moved C_Mixed C sp → MAlt l.prog w K mg base CX0 1 "needs" C sp := by
    rintro C sp (⟨rfl, rfl⟩ | ⟨rfl, rfl⟩ | ⟨rfl, rfl⟩)
    · exact ⟨_, _, _, T_Plain.c, ⟨a_Plain__needs, fn_Plain__needs, k_Plain__needs⟩, G_Plain__needs.mono (by decide), b_Plain__needs⟩
    · exact ⟨_, _, _, T_Moved.c, ⟨a_Moved__needs, fn_Moved__needs, k_Moved__needs⟩, G_Moved__needs.mono (by decide), b_Moved__needs⟩
    · exact ⟨_, _, _, T_Mixed.c, ⟨a_Mixed__needs, fn_Mixed__needs, k_Mixed__needs⟩, G_Mixed__needs.mono (by decide), b_Mixed__needs⟩
  have L_Rule__value : ∀ C sp, A_Rule__value K mg C_Plain C_Moved C_Mixed C sp → MAlt l.prog w K mg base CX0 1 "value" C sp := by
    rintro C sp (⟨rfl, rfl⟩ | ⟨rfl, rfl⟩ | ⟨rfl, rfl⟩)
    · exact ⟨_, _, _, T_Plain.c, ⟨a_Plain__value, fn_Plain__value, k_Plain__value⟩, G_Plain__value.mono (by decide), b_Plain__value⟩
    · exact ⟨_, _, _, T_Moved.c, ⟨a_Moved__value, fn_Moved__value, k_Moved__value⟩, G_Moved__value.mono (by decide), b_Moved__value⟩
    · exact ⟨_, _, _, T_Mixed.c, ⟨a_Mixed__value, fn_Mixed__value, k_Mixed__value⟩, G_Mixed__value.mono (by decide), b_Mixed__value⟩
  have L_Rule____str__ : ∀ C sp, A_Rule____str__ K mg C_Plain C_Moved C_Mixed C sp → MAlt l.prog w K mg base CX0 1 "__str__" C sp := by
    rintro C sp (⟨rfl, rfl⟩ | ⟨rfl, rfl⟩ | ⟨rfl, rfl⟩)
    · exact ⟨_, _, _, T_Plain.c, ⟨a_Plain____str__, fn_Plain____str__, k_Plain____str__⟩, G_Plain____str__.mono (by decide), b_Plain____str__⟩
    · exact ⟨_, _, _, T_Moved.c, ⟨a_Moved____str__, fn_Moved____str__, k_Moved____str__⟩, G_Moved____str__.mono (by decide), b_Moved____str__⟩
    · exact ⟨_, _, _, T_Mixed.c, ⟨a_Mixed____str__, fn_Mixed____str__, k_Mixed____str__⟩, G_Mixed____str__.mono (by decide), b_Mixed____str__⟩
  have G__law_right := ok__law_right (Pr := l.prog) (wo := w) (base := base) (mg := mg) F__law_right T_Plain T_Moved T_Mixed L_Rule__told L_Rule__needs L_Rule__value L_Rule____str__ g__law_needs k__law_needs b__law_needs G__law_needs g__law_pairs k__law_pairs b__law_pairs G__law_pairs g__law_of_its_class k__law_of_its_class b__law_of_its_class G__law_of_its_class g__law_numbers k__law_numbers b__law_numbers G__law_numbers g__law_whole k__law_whole b__law_whole G__law_whole g__law_worth k__law_worth b__law_worth G__law_worth g__law_word k__law_word b__law_word G__law_word bI_len bI_str
  have G_law := ok_law (Pr := l.prog) (wo := w) (base := base) (mg := mg) F_law g__law_rule k__law_rule b__law_rule G__law_rule g__law_well k__law_well b__law_well G__law_well g_rule_of k_rule_of b_rule_of G_rule_of g__law_edge k__law_edge b__law_edge G__law_edge g__law_right k__law_right b__law_right G__law_right g__law_by_name k__law_by_name b__law_by_name G__law_by_name kb_rule_of_0_told
  exact G_law.imp fun vs H Q E h => top_of law_ok h
end A
open PySem PySem.W PyProof.Rows
set_option maxRecDepth 100000 in
set_option maxHeartbeats 0 in
theorem PySem.Challenge.cw_lanescroll_k04_rules_told_and_valued_holds : PySem.Challenge.rw_lanescroll_k04_rules_told_and_valued.Holds := by
  w_on; o_law; k_head; (case hw => w_witness2)
  k_fill
  refine Y.walk_top (l := PySem.Challenge.rw_lanescroll_k04_rules_told_and_valued) (k := 5) (x := "_law_script") rfl rfl ⟨rfl, by decide, by decide⟩ (fun w h Y => PySem.W.kIn_of Y) ?F
  case F =>
    intro w mg fa h KX G hmg
    refine' A.all_mk KX G hmg ?kca_Plain ?kcpg_Plain ?kchd_Plain ?kcpo_Plain ?kcsa_Plain ?kcha_Plain ?kchm_Plain ?kcty_Plain ?kcis_Plain ?kcself_Plain ?kctbool_Plain ?kctint_Plain ?kctstr_Plain ?kctlist_Plain ?kcttuple_Plain ?kctdict_Plain ?kcmk_Plain ?kckp_Plain ?kca_Moved ?kcpg_Moved ?kchd_Moved ?kcpo_Moved ?kcsa_Moved ?kcha_Moved ?kchm_Moved ?kcty_Moved ?kcis_Moved ?kcself_Moved ?kctbool_Moved ?kctint_Moved ?kctstr_Moved ?kctlist_Moved ?kcttuple_Moved ?kctdict_Moved ?kcmk_Moved ?kckp_Moved ?kca_Mixed ?kcpg_Mixed ?kchd_Mixed ?kcpo_Mixed ?kcsa_Mixed ?kcha_Mixed ?kchm_Mixed ?kcty_Mixed ?kcis_Mixed ?kcself_Mixed ?kctbool_Mixed ?kctint_Mixed ?kctstr_Mixed ?kctlist_Mixed ?kcttuple_Mixed ?kctdict_Mixed ?kcmk_Mixed ?kckp_Mixed ?kca_Rule ?kcpg_Rule ?kchd_Rule ?kcpo_Rule ?kcsa_Rule ?kcha_Rule ?kchm_Rule ?kcty_Rule ?kcis_Rule ?kcself_Rule ?kctbool_Rule ?kctint_Rule ?kctstr_Rule ?kctlist_Rule ?kcttuple_Rule ?kctdict_Rule ?n_Moved_back ?n_Moved_cell ?n_Mixed_back ?n_Mixed_cell ?n_Mixed_other_back ?n_Mixed_other_cell ?n_Plain_worth ?n_Moved_add ?p_Plain_Rule ?p_Moved_Rule ?p_Mixed_Rule ?p_Plain_Plain ?p_Moved_Plain ?p_Mixed_Plain ?p_Plain_Moved ?p_Moved_Moved ?p_Mixed_Moved ?p_Plain_Mixed ?p_Moved_Mixed ?p_Mixed_Mixed ?a_is_whole ?l_is_whole ?c_is_whole ?k_is_whole ?a_is_need ?l_is_need ?c_is_need ?k_is_need ?a_rule_of ?l_rule_of ?c_rule_of ?k_rule_of ?a__law_cell_at ?l__law_cell_at ?c__law_cell_at ?k__law_cell_at ?a__law_well ?l__law_well ?c__law_well ?k__law_well ?a__law_draw ?l__law_draw ?c__law_draw ?k__law_draw ?a__law_whole ?l__law_whole ?c__law_whole ?k__law_whole ?a__law_edge ?l__law_edge ?c__law_edge ?k__law_edge ?a__law_rule ?l__law_rule ?c__law_rule ?k__law_rule ?a__law_needs ?l__law_needs ?c__law_needs ?k__law_needs ?a__law_worth ?l__law_worth ?c__law_worth ?k__law_worth ?a__law_word ?l__law_word ?c__law_word ?k__law_word ?a__law_by_name ?l__law_by_name ?c__law_by_name ?k__law_by_name ?a__law_of_its_class ?l__law_of_its_class ?c__law_of_its_class ?k__law_of_its_class ?a__law_numbers ?l__law_numbers ?c__law_numbers ?k__law_numbers ?a__law_pairs ?l__law_pairs ?c__law_pairs ?k__law_pairs ?a__law_right ?l__law_right ?c__law_right ?k__law_right ?a_law ?l_law ?c_law ?k_law ?a_Plain__told ?fn_Plain__told ?l_Plain__told ?c_Plain__told ?k_Plain__told ?a_Plain__needs ?fn_Plain__needs ?l_Plain__needs ?c_Plain__needs ?k_Plain__needs ?a_Plain__value ?fn_Plain__value ?l_Plain__value ?c_Plain__value ?k_Plain__value ?a_Plain____str__ ?fn_Plain____str__ ?l_Plain____str__ ?c_Plain____str__ ?k_Plain____str__ ?a_Plain____init__ ?fn_Plain____init__ ?l_Plain____init__ ?c_Plain____init__ ?k_Plain____init__ ?a_Moved__told ?fn_Moved__told ?l_Moved__told ?c_Moved__told ?k_Moved__told ?a_Moved__needs ?fn_Moved__needs ?l_Moved__needs ?c_Moved__needs ?k_Moved__needs ?a_Moved__value ?fn_Moved__value ?l_Moved__value ?c_Moved__value ?k_Moved__value ?a_Moved____str__ ?fn_Moved____str__ ?l_Moved____str__ ?c_Moved____str__ ?k_Moved____str__ ?a_Moved____init__ ?fn_Moved____init__ ?l_Moved____init__ ?c_Moved____init__ ?k_Moved____init__ ?a_Mixed__told ?fn_Mixed__told ?l_Mixed__told ?c_Mixed__told ?k_Mixed__told ?a_Mixed__needs ?fn_Mixed__needs ?l_Mixed__needs ?c_Mixed__needs ?k_Mixed__needs ?a_Mixed__value ?fn_Mixed__value ?l_Mixed__value ?c_Mixed__value ?k_Mixed__value ?a_Mixed____str__ ?fn_Mixed____str__ ?l_Mixed____str__ ?c_Mixed____str__ ?k_Mixed____str__ ?a_Mixed____init__ ?fn_Mixed____init__ ?l_Mixed____init__ ?c_Mixed____init__ ?k_Mixed____init__ ?xca_NoRule ?xchg_NoRule ?xchk_NoRule ?xchs_NoRule ?xchd_NoRule ?xcha_NoRule ?xchm_NoRule ?xcty_NoRule ?xckp_NoRule ?xcve_NoRule ?xcis_NoRule ?xcself_NoRule ?xcex_NoRule ?xhn ?xht ?z_isinstance ?z_int ?z_bool ?z_tuple ?z_len ?z_str ?z_all ?z_list ?z_zip ?z_sum
    (case kca_Plain => k_is)
    (case kcpg_Plain => k_is)
    (case kchd_Plain => k_is)
    (case kcpo_Plain => k_is)
    (case kcsa_Plain => k_is)
    (case kcha_Plain => k_is)
    (case kchm_Plain => k_is)
    (case kcty_Plain => k_is)
    (case kcis_Plain => k_is)
    (case kcself_Plain => k_is)
    (case kctbool_Plain => k_is)
    (case kctint_Plain => k_is)
    (case kctstr_Plain => k_is)
    (case kctlist_Plain => k_is)
    (case kcttuple_Plain => k_is)
    (case kctdict_Plain => k_is)
    (case kcmk_Plain => k_is)
    (case kckp_Plain => k_is)
    (case kca_Moved => k_is)
    (case kcpg_Moved => k_is)
    (case kchd_Moved => k_is)
    (case kcpo_Moved => k_is)
    (case kcsa_Moved => k_is)
    (case kcha_Moved => k_is)
    (case kchm_Moved => k_is)
    (case kcty_Moved => k_is)
    (case kcis_Moved => k_is)
    (case kcself_Moved => k_is)
    (case kctbool_Moved => k_is)
    (case kctint_Moved => k_is)
    (case kctstr_Moved => k_is)
    (case kctlist_Moved => k_is)
    (case kcttuple_Moved => k_is)
    (case kctdict_Moved => k_is)
    (case kcmk_Moved => k_is)
    (case kckp_Moved => k_is)
    (case kca_Mixed => k_is)
    (case kcpg_Mixed => k_is)
    (case kchd_Mixed => k_is)
    (case kcpo_Mixed => k_is)
    (case kcsa_Mixed => k_is)
    (case kcha_Mixed => k_is)
    (case kchm_Mixed => k_is)
    (case kcty_Mixed => k_is)
    (case kcis_Mixed => k_is)
    (case kcself_Mixed => k_is)
    (case kctbool_Mixed => k_is)
    (case kctint_Mixed => k_is)
    (case kctstr_Mixed => k_is)
    (case kctlist_Mixed => k_is)
    (case kcttuple_Mixed => k_is)
    (case kctdict_Mixed => k_is)
    (case kcmk_Mixed => k_is)
    (case kckp_Mixed => k_is)
    (case kca_Rule => k_is)
    (case kcpg_Rule => k_is)
    (case kchd_Rule => k_is)
    (case kcpo_Rule => k_is)
    (case kcsa_Rule => k_is)
    (case kcha_Rule => k_is)
    (case kchm_Rule => k_is)
    (case kcty_Rule => k_is)
    (case kcis_Rule => k_is)
    (case kcself_Rule => k_is)
    (case kctbool_Rule => k_is)
    (case kctint_Rule => k_is)
    (case kctstr_Rule => k_is)
    (case kctlist_Rule => k_is)
    (case kcttuple_Rule => k_is)
    (case kctdict_Rule => k_is)
    (case n_Moved_back => k_is)
    (case n_Moved_cell => k_is)
    (case n_Mixed_back => k_is)
    (case n_Mixed_cell => k_is)
    (case n_Mixed_other_back => k_is)
    (case n_Mixed_other_cell => k_is)
    (case n_Plain_worth => k_is)
    (case n_Moved_add => k_is)
    (case p_Plain_Rule => k_is)
    (case p_Moved_Rule => k_is)
    (case p_Mixed_Rule => k_is)
    (case p_Plain_Plain => k_is)
    (case p_Moved_Plain => k_is)
    (case p_Mixed_Plain => k_is)
    (case p_Plain_Moved => k_is)
    (case p_Moved_Moved => k_is)
    (case p_Mixed_Moved => k_is)
    (case p_Plain_Mixed => k_is)
    (case p_Moved_Mixed => k_is)
    (case p_Mixed_Mixed => k_is)
    (case a_is_whole => k_is)
    (case l_is_whole => k_is)
    (case c_is_whole => k_is)
    (case k_is_whole => k_is)
    (case a_is_need => k_is)
    (case l_is_need => k_is)
    (case c_is_need => k_is)
    (case k_is_need => k_is)
    (case a_rule_of => k_is)
    (case l_rule_of => k_is)
    (case c_rule_of => k_is)
    (case k_rule_of => k_is)
    (case a__law_cell_at => k_is)
    (case l__law_cell_at => k_is)
    (case c__law_cell_at => k_is)
    (case k__law_cell_at => k_is)
    (case a__law_well => k_is)
    (case l__law_well => k_is)
    (case c__law_well => k_is)
    (case k__law_well => k_is)
    (case a__law_draw => k_is)
    (case l__law_draw => k_is)
    (case c__law_draw => k_is)
    (case k__law_draw => k_is)
    (case a__law_whole => k_is)
    (case l__law_whole => k_is)
    (case c__law_whole => k_is)
    (case k__law_whole => k_is)
    (case a__law_edge => k_is)
    (case l__law_edge => k_is)
    (case c__law_edge => k_is)
    (case k__law_edge => k_is)
    (case a__law_rule => k_is)
    (case l__law_rule => k_is)
    (case c__law_rule => k_is)
    (case k__law_rule => k_is)
    (case a__law_needs => k_is)
    (case l__law_needs => k_is)
    (case c__law_needs => k_is)
    (case k__law_needs => k_is)
    (case a__law_worth => k_is)
    (case l__law_worth => k_is)
    (case c__law_worth => k_is)
    (case k__law_worth => k_is)
    (case a__law_word => k_is)
    (case l__law_word => k_is)
    (case c__law_word => k_is)
    (case k__law_word => k_is)
    (case a__law_by_name => k_is)
    (case l__law_by_name => k_is)
    (case c__law_by_name => k_is)
    (case k__law_by_name => k_is)
    (case a__law_of_its_class => k_is)
    (case l__law_of_its_class => k_is)
    (case c__law_of_its_class => k_is)
    (case k__law_of_its_class => k_is)
    (case a__law_numbers => k_is)
    (case l__law_numbers => k_is)
    (case c__law_numbers => k_is)
    (case k__law_numbers => k_is)
    (case a__law_pairs => k_is)
    (case l__law_pairs => k_is)
    (case c__law_pairs => k_is)
    (case k__law_pairs => k_is)
    (case a__law_right => k_is)
    (case l__law_right => k_is)
    (case c__law_right => k_is)
    (case k__law_right => k_is)
    (case a_law => k_is)
    (case l_law => k_is)
    (case c_law => k_is)
    (case k_law => k_is)
    (case a_Plain__told => k_is)
    (case fn_Plain__told => k_is)
    (case l_Plain__told => k_is)
    (case c_Plain__told => k_is)
    (case k_Plain__told => k_is)
    (case a_Plain__needs => k_is)
    (case fn_Plain__needs => k_is)
    (case l_Plain__needs => k_is)
    (case c_Plain__needs => k_is)
    (case k_Plain__needs => k_is)
    (case a_Plain__value => k_is)
    (case fn_Plain__value => k_is)
    (case l_Plain__value => k_is)
    (case c_Plain__value => k_is)
    (case k_Plain__value => k_is)
    (case a_Plain____str__ => k_is)
    (case fn_Plain____str__ => k_is)
    (case l_Plain____str__ => k_is)
    (case c_Plain____str__ => k_is)
    (case k_Plain____str__ => k_is)
    (case a_Plain____init__ => k_is)
    (case fn_Plain____init__ => k_is)
    (case l_Plain____init__ => k_is)
    (case c_Plain____init__ => k_is)
    (case k_Plain____init__ => k_is)
    (case a_Moved__told => k_is)
    (case fn_Moved__told => k_is)
    (case l_Moved__told => k_is)
    (case c_Moved__told => k_is)
    (case k_Moved__told => k_is)
    (case a_Moved__needs => k_is)
    (case fn_Moved__needs => k_is)
    (case l_Moved__needs => k_is)
    (case c_Moved__needs => k_is)
    (case k_Moved__needs => k_is)
    (case a_Moved__value => k_is)
    (case fn_Moved__value => k_is)
    (case l_Moved__value => k_is)
    (case c_Moved__value => k_is)
    (case k_Moved__value => k_is)
    (case a_Moved____str__ => k_is)
    (case fn_Moved____str__ => k_is)
    (case l_Moved____str__ => k_is)
    (case c_Moved____str__ => k_is)
    (case k_Moved____str__ => k_is)
    (case a_Moved____init__ => k_is)
    (case fn_Moved____init__ => k_is)
    (case l_Moved____init__ => k_is)
    (case c_Moved____init__ => k_is)
    (case k_Moved____init__ => k_is)
    (case a_Mixed__told => k_is)
    (case fn_Mixed__told => k_is)
    (case l_Mixed__told => k_is)
    (case c_Mixed__told => k_is)
    (case k_Mixed__told => k_is)
    (case a_Mixed__needs => k_is)
    (case fn_Mixed__needs => k_is)
    (case l_Mixed__needs => k_is)
    (case c_Mixed__needs => k_is)
    (case k_Mixed__needs => k_is)
    (case a_Mixed__value => k_is)
    (case fn_Mixed__value => k_is)
    (case l_Mixed__value => k_is)
    (case c_Mixed__value => k_is)
    (case k_Mixed__value => k_is)
    (case a_Mixed____str__ => k_is)
    (case fn_Mixed____str__ => k_is)
    (case l_Mixed____str__ => k_is)
    (case c_Mixed____str__ => k_is)
    (case k_Mixed____str__ => k_is)
    (case a_Mixed____init__ => k_is)
    (case fn_Mixed____init__ => k_is)
    (case l_Mixed____init__ => k_is)
    (case c_Mixed____init__ => k_is)
    (case k_Mixed____init__ => k_is)
    (case xca_NoRule => k_is)
    (case xchg_NoRule => k_is)
    (case xchk_NoRule => k_is)
    (case xchs_NoRule => k_is)
    (case xchd_NoRule => k_is)
    (case xcha_NoRule => k_is)
    (case xchm_NoRule => k_is)
    (case xcty_NoRule => k_is)
    (case xckp_NoRule => k_is)
    (case xcve_NoRule => k_is)
    (case xcis_NoRule => k_is)
    (case xcself_NoRule => k_is)
    (case xcex_NoRule => k_exc)
    (case xhn => k_is)
    (case xht => k_is)
    (case z_isinstance => k_is)
    (case z_int => k_is)
    (case z_bool => k_is)
    (case z_tuple => k_is)
    (case z_len => k_is)
    (case z_str => k_is)
    (case z_all => k_is)
    (case z_list => k_is)
    (case z_zip => k_is)
    (case z_sum => k_is)
