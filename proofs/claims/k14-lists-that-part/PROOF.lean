import PyProof.Rows.All
import Wide.All
import OpenK.AllK
import Wide.FinOn
import HandS.ForMost
import HandS.Evl
import HandS.IsInst
import HandS.Flow
import HandS.Defaults
import HandS.Wide
import HandS.WideMore
import HandS.Style
import HandS.ForExc
import HandS.TryOnly
import HandS.CallSlots
import HandS.ExcIs
import HandS.Walk
import HandS.Iter
import HandS.More
import PySem.Challenge.RW_lanescroll_k14_lists_that_part
set_option Elab.async false
set_option linter.all false
set_option maxRecDepth 100000
set_option maxHeartbeats 2000000
namespace Y
open PySem PySem.Spec PyProof.Rows
open L2

/-- data: what a value stands for, through the heap -/
inductive D where
  | non | bl (b : Bool) | int (i : Int) | str (x : Str)
  | lst (ds : List D) | tup (ds : List D) | dic (kvs : List (Key × D))

abbrev Ex (H H' : Hp) : Prop := ∀ a o, H a = some o → H' a = some o
theorem Ex.refl (H : Hp) : Ex H H := fun _ _ h => h
theorem Ex.trans {H H1 H2 : Hp} (a : Ex H H1) (b : Ex H1 H2) : Ex H H2 := fun x o h => b x o (a x o h)
theorem Ex.new {H : Hp} {p : Addr} {o : HO} (h : H p = none) : Ex H (upd H p o) := fun a u e => by
  rw [upd_ne (ne_of_none e h)]
  exact e
theorem Ex.upd {B H : Hp} {p : Addr} {o : HO} (e : Ex B H) (h : B p = none) : Ex B (upd H p o) := fun a u ha => by
  rw [upd_ne (ne_of_none ha h)]
  exact e a u ha
theorem Ex.both {B H : Hp} {p : Addr} {o : HO} (e : Ex B H) : Ex (L2.upd B p o) (L2.upd H p o) := fun a u ha => by
  by_cases q : a = p
  · subst q; rw [upd_same] at ha; cases ha; exact upd_same
  · rw [upd_ne q] at ha; rw [upd_ne q]; exact e a u ha
theorem Ex.none {H H' : Hp} {p : Addr} (e : Ex H H') (h : H' p = none) : H p = none := by
  cases h1 : H p with
  | none => rfl
  | some o => rw [e p o h1] at h; cases h
theorem Ex.rd {H H' : Hp} {a : Addr} {u : HO} (e : Ex H H') (h : Rd H a u) : Rd H' a u := by
  rcases h with h | ⟨o, h⟩
  · exact Or.inl (e a _ h)
  · exact Or.inr ⟨o, e a _ h⟩
theorem Ex.l {K : PySem.W.Frag} {H H' : Hp} {a : Addr} {xs : List V} (e : Ex H H') (h : SqL K H a xs) : SqL K H' a xs := by
  rcases h with h | h
  · exact Or.inl (e.rd h)
  · exact Or.inr h
theorem Ex.t {K : PySem.W.Frag} {H H' : Hp} {a : Addr} {xs : List V} (e : Ex H H') (h : SqT K H a xs) : SqT K H' a xs := by
  rcases h with h | h
  · exact Or.inl (e.rd h)
  · exact Or.inr h

mutual
/-- v stands for d -/
inductive Rep (K : PySem.W.Frag) (B : Hp) : V → D → Prop where
  | non : Rep K B .non .non
  | bl (b : Bool) : Rep K B (.bl b) (.bl b)
  | int (i : Int) : Rep K B (.int i) (.int i)
  | str (x : Str) : Rep K B (.str x) (.str x)
  | lst {p : Addr} {xs : List V} {ds : List D} (h : SqL K B p xs) (r : RepL K B xs ds) : Rep K B (.ref p) (.lst ds)
  | tup {p : Addr} {xs : List V} {ds : List D} (h : SqT K B p xs) (r : RepL K B xs ds) : Rep K B (.ref p) (.tup ds)
  | dic {p : Addr} {kvs : List (Key × V)} {ds : List (Key × D)} (h : B p = some (.dK kvs)) (r : RepK K B kvs ds) : Rep K B (.ref p) (.dic ds)
inductive RepL (K : PySem.W.Frag) (B : Hp) : List V → List D → Prop where
  | nil : RepL K B [] []
  | cons {v : V} {d : D} {vs : List V} {ds : List D} (h : Rep K B v d) (t : RepL K B vs ds) : RepL K B (v :: vs) (d :: ds)
inductive RepK (K : PySem.W.Frag) (B : Hp) : List (Key × V) → List (Key × D) → Prop where
  | nil : RepK K B [] []
  | cons {k : Key} {v : V} {d : D} {vs : List (Key × V)} {ds : List (Key × D)} (h : Rep K B v d) (t : RepK K B vs ds) : RepK K B ((k, v) :: vs) ((k, d) :: ds)
end
section
variable {K : PySem.W.Frag} {B B' H : Hp}
mutual
theorem Rep.mono (e : Ex B B') : ∀ {v : V} {d : D}, Rep K B v d → Rep K B' v d
  | _, _, .non => .non
  | _, _, .bl b => .bl b
  | _, _, .int i => .int i
  | _, _, .str x => .str x
  | _, _, .lst h r => .lst (e.l h) (RepL.mono e r)
  | _, _, .tup h r => .tup (e.t h) (RepL.mono e r)
  | _, _, .dic h r => .dic (e _ _ h) (RepK.mono e r)
theorem RepL.mono (e : Ex B B') : ∀ {vs : List V} {ds : List D}, RepL K B vs ds → RepL K B' vs ds
  | _, _, .nil => .nil
  | _, _, .cons h t => .cons (Rep.mono e h) (RepL.mono e t)
theorem RepK.mono (e : Ex B B') : ∀ {vs : List (Key × V)} {ds : List (Key × D)}, RepK K B vs ds → RepK K B' vs ds
  | _, _, .nil => .nil
  | _, _, .cons h t => .cons (Rep.mono e h) (RepK.mono e t)
end
theorem RepL.length : ∀ {vs : List V} {ds : List D}, RepL K B vs ds → vs.length = ds.length
  | _, _, .nil => rfl
  | _, _, .cons _ t => congrArg Nat.succ (RepL.length t)
theorem RepL.get : ∀ {vs : List V} {ds : List D} {i : Nat} {d : D}, RepL K B vs ds → ds[i]? = some d → ∃ v, vs[i]? = some v ∧ Rep K B v d
  | _, _, _, _, .nil, e => by simp at e
  | _, _, 0, _, .cons r _, e => by simp at e; subst e; exact ⟨_, rfl, r⟩
  | _, _, i + 1, x, .cons _ t, e => by
    obtain ⟨u, h1, h2⟩ := RepL.get (i := i) (d := x) t (by simpa using e)
    exact ⟨u, by simpa using h1, h2⟩
theorem RepL.append : ∀ {vs ws : List V} {ds es : List D}, RepL K B vs ds → RepL K B ws es → RepL K B (vs ++ ws) (ds ++ es)
  | _, _, _, _, .nil, s => s
  | _, _, _, _, .cons r t, s => .cons r (RepL.append t s)
theorem RepL.at {vs : List V} {ds : List D} {i : Int} {d : D} (r : RepL K B vs ds) (h : atI ds i = some d) : ∃ v, atI vs i = some v ∧ Rep K B v d := by
  unfold atI at h ⊢
  rw [r.length]
  cases e : ixN ds.length i with
  | none => rw [e] at h; cases h
  | some j => rw [e] at h; exact r.get h
theorem RepL.ints : ∀ (ns : List Int), RepL K B (ns.map V.int) (ns.map D.int)
  | [] => .nil
  | n :: r => .cons (.int n) (RepL.ints r)
theorem RepL.of_ints : ∀ {vs : List V} {ns : List Int}, RepL K B vs (ns.map D.int) → vs = ns.map V.int
  | [], [], _ => rfl
  | _ :: _, [], r => nomatch r
  | [], _ :: _, r => nomatch r
  | v :: vs, n :: ns, r => by
    cases r with
    | cons h t =>
      cases h
      rw [RepL.of_ints t]
      rfl
end

/-- from (B, H), what is known and the heap, to (B', H'), writing at most at W -/
structure Stp (W : List Addr) (B H B' H' : Hp) : Prop where
  ex : Ex B B'
  ok : Ex B' H'
  fr : ∀ a o, a ∉ W → H a = some o → H' a = some o
  al : ∀ a o, H a = some o → ∃ o', H' a = some o'
  nw : ∀ a o, B a = none → H a = some o → B' a = none
section
variable {W W' : List Addr} {B H B' H' B1 H1 B2 H2 : Hp} {p : Addr} {o : HO}
theorem Stp.refl (w : Ex B H) : Stp W B H B H := ⟨Ex.refl B, w, fun _ _ _ h => h, fun _ o h => ⟨o, h⟩, fun _ _ h _ => h⟩
theorem Stp.trans (a : Stp W B H B1 H1) (b : Stp W B1 H1 B2 H2) : Stp W B H B2 H2 :=
  ⟨a.ex.trans b.ex, b.ok, fun x o hx h => b.fr x o hx (a.fr x o hx h), fun x o h => let ⟨o1, h1⟩ := a.al x o h; b.al x o1 h1, fun x o hb h => let ⟨o1, h1⟩ := a.al x o h; b.nw x o1 (a.nw x o hb h) h1⟩
theorem Stp.w (a : Stp W B H B1 H1) (h : ∀ x, x ∈ W → x ∈ W') : Stp W' B H B1 H1 := ⟨a.ex, a.ok, fun x o hx e => a.fr x o (fun z => hx (h x z)) e, a.al, a.nw⟩
theorem Stp.w0 (a : Stp [] B H B1 H1) : Stp W B H B1 H1 := a.w fun _ h => nomatch h
/-- a new object that stays -/
theorem Stp.new (w : Ex B H) (h : H p = none) : Stp W B H (upd B p o) (upd H p o) :=
  ⟨Ex.new (w.none h), w.both, fun a u _ e => Ex.new h a u e, fun a u e => ⟨u, Ex.new h a u e⟩, fun a u hb e => by rw [upd_ne (ne_of_none e h)]; exact hb⟩
/-- a new object that may change -/
theorem Stp.newM (w : Ex B H) (h : H p = none) : Stp W B H B (upd H p o) :=
  ⟨Ex.refl B, w.upd (w.none h), fun a u _ e => Ex.new h a u e, fun a u e => ⟨u, Ex.new h a u e⟩, fun a u hb _ => hb⟩
/-- a changed object of W -/
theorem Stp.set (w : Ex B H) (hp : p ∈ W) (hb : B p = none) {u : HO} (hu : H p = some u) : Stp W B H B (upd H p o) :=
  ⟨Ex.refl B, w.upd hb, fun a u hx e => by rw [upd_ne (fun z => hx (by rw [z]; exact hp))]; exact e, fun a u e => by
    by_cases q : a = p
    · subst q; exact ⟨o, upd_same⟩
    · exact ⟨u, by rw [upd_ne q]; exact e⟩, fun _ _ h _ => h⟩
/-- an object of our own, made behind the entry, changed -/
theorem Stp.own (a : Stp W B H B1 H1) (h0 : H p = none) (hb : B1 p = none) (h : ∃ u, H1 p = some u) : Stp W B H B1 (upd H1 p o) :=
  ⟨a.ex, a.ok.upd hb, fun x u hx e => by rw [upd_ne (ne_of_none e h0)]; exact a.fr x u hx e, fun x u e => by
    rw [upd_ne (ne_of_none e h0)]; exact a.al x u e, a.nw⟩
/-- an object of our own turns into one that stays -/
theorem Stp.keep (w : Ex B H) (a : Stp W B H B1 H1) (h0 : H p = none) (hb : B1 p = none) (h : H1 p = some o) : Stp W B H (upd B1 p o) H1 :=
  ⟨fun x u e => by rw [upd_ne (ne_of_none e (w.none h0))]; exact a.ex x u e, fun x u e => by
    by_cases q : x = p
    · subst q; rw [upd_same] at e; cases e; exact h
    · rw [upd_ne q] at e; exact a.ok x u e, a.fr, a.al, fun x u hb e => by rw [upd_ne (ne_of_none e h0)]; exact a.nw x u hb e⟩
end
/-! ### mirrors -/
/-- an error that is raised: the class's name, what it is told -/
structure Err where
  cls : Str
  args : List D := []
/-- what a mirror gives: a value, an error, or a place that the model does not serve -/
inductive Res (α : Type) where
  | ok (a : α) | err (e : Err) | stuck
def Res.bind {α β : Type} (m : Res α) (k : α → Res β) : Res β := match m with | .ok a => k a | .err e => .err e | .stuck => .stuck
/-- an error that nobody waits for -/
def Res.noErr {α : Type} (m : Res α) : Res α := match m with | .ok a => .ok a | _ => .stuck
instance : Monad Res where
  pure := Res.ok
  bind := Res.bind
def Post0 {α : Type} (m : Res α) (P : α → Prop) (R : Err → Prop) : Prop := match m with | .ok a => P a | .err e => R e | .stuck => False
/-- what the mirror gives is wished for: a structure, so that nothing looks into it -/
structure Post {α : Type} (m : Res α) (P : α → Prop) (R : Err → Prop) : Prop where
  h0 : Post0 m P R
section
variable {α β : Type} {m : Res α} {P P' : α → Prop} {R R' : Err → Prop} {a : α}
theorem Post.mono (h : Post m P R) (hp : ∀ a, P a → P' a) (hr : ∀ e, R e → R' e) : Post m P' R' := by
  obtain ⟨h⟩ := h
  refine ⟨?_⟩
  cases m with
  | ok a => exact hp a h
  | err e => exact hr e h
  | stuck => exact h
theorem Post.bind {k : α → Res β} {P : β → Prop} (h : Post (m.bind k) P R) : Post m (fun a => Post (k a) P R) R := by
  obtain ⟨h⟩ := h
  refine ⟨?_⟩
  cases m
  · exact ⟨h⟩
  · exact h
  · exact h
theorem Post.noErr (h : Post m.noErr P R) : Post m P (fun _ => False) := by
  obtain ⟨h⟩ := h
  refine ⟨?_⟩
  cases m with
  | ok a => exact h
  | err e => exact h
  | stuck => exact h
theorem Post.ok (h : Post (.ok a) P R) : P a := h.h0
theorem Post.err {e : Err} (h : Post (.err e : Res α) P R) : R e := h.h0
theorem Post.elim {C : Prop} (h : Post (.stuck : Res α) P R) : C := False.elim h.h0
theorem Post.mk' (h : P a) : Post (.ok a) P R := ⟨h⟩
theorem Post.iteT {c : Bool} {m m' : Res α} (h : Post (if c = true then m else m') P R) (hc : c = true) : Post m P R := by
  rw [if_pos hc] at h; exact h
theorem Post.iteF {c : Bool} {m m' : Res α} (h : Post (if c = true then m else m') P R) (hc : c = false) : Post m' P R := by
  rw [hc, if_neg Bool.false_ne_true] at h; exact h
theorem Post.is {m' : Res α} (h : Post m P R) (e : m = m') : Post m' P R := e ▸ h
end
/-- an item -/
def ixR {α : Type} (l : List α) (i : Int) : Res α := match atI l i with | some x => .ok x | none => .stuck
theorem Post.ix {α β : Type} {l : List α} {i : Int} {k : α → Res β} {P : β → Prop} {R : Err → Prop} (h : Post ((ixR l i).bind k) P R) : ∃ x, atI l i = some x ∧ Post (k x) P R := by
  unfold ixR at h
  cases e : atI l i with
  | none => rw [e] at h; exact h.elim
  | some x => rw [e] at h; exact ⟨x, rfl, h⟩
/-- where c holds -/
def guardR {α : Type} (c : Prop) [Decidable c] (m : Res α) : Res α := if c then m else .stuck
theorem Post.guard {α : Type} {c : Prop} [Decidable c] {m : Res α} {P : α → Prop} {R : Err → Prop} (h : Post (guardR c m) P R) : c ∧ Post m P R := by
  unfold guardR at h
  by_cases e : c
  · rw [if_pos e] at h; exact ⟨e, h⟩
  · rw [if_neg e] at h; exact h.elim
instance (i j : Int) : Decidable (CMulW i j) := by unfold CMulW; infer_instance
instance (i j : Int) : Decidable (CDivW i j) := by unfold CDivW; infer_instance
/-- a loop's turn: on, or a value that is returned, or out -/
inductive Fl (S R : Type) where
  | nx (s : S) | rt (r : R) | bk (s : S)
def forR {α S R : Type} : List α → S → (α → S → Res (Fl S R)) → Res (Fl S R)
  | [], s, _ => .ok (.nx s)
  | x :: xs, s, f => (f x s).bind fun r => match r with | .nx s' => forR xs s' f | r => .ok r
theorem Post.forS {α S R : Type} {l : List α} {i : Nat} {s : S} {f : α → S → Res (Fl S R)} {P : Fl S R → Prop} {E : Err → Prop} {x : α} (h : Post (forR (l.drop i) s f) P E) (hx : l[i]? = some x) :
    Post (f x s) (fun r => match r with | .nx s' => Post (forR (l.drop (i + 1)) s' f) P E | .rt v => P (.rt v) | .bk s' => P (.bk s')) E := by
  obtain ⟨hi, e⟩ := List.getElem?_eq_some_iff.mp hx
  rw [List.drop_eq_getElem_cons hi, e] at h
  exact (Post.bind h).mono (fun r q => by
    cases r
    · exact q
    · exact q.ok
    · exact q.ok) fun _ q => q
theorem Post.forN {α S R : Type} {l : List α} {i : Nat} {s : S} {f : α → S → Res (Fl S R)} {P : Fl S R → Prop} {E : Err → Prop} (h : Post (forR (l.drop i) s f) P E) (hi : l.length ≤ i) : P (.nx s) := by
  rw [List.drop_eq_nil_of_le hi] at h
  exact h.ok

/-! ### what stands for data -/
class Enc (α : Type) where
  enc : α → D
open Enc (enc)
structure Tp1 (α : Type) where
  a : α
structure Tp2 (α β : Type) where
  a : α
  b : β
structure Tp3 (α β γ : Type) where
  a : α
  b : β
  c : γ
structure Tp4 (α β γ δ : Type) where
  a : α
  b : β
  c : γ
  d : δ
structure Tp5 (α β γ δ ε : Type) where
  a : α
  b : β
  c : γ
  d : δ
  e : ε
instance : Enc Int := ⟨.int⟩
instance : Enc Bool := ⟨.bl⟩
instance : Enc Str := ⟨.str⟩
instance : Enc Unit := ⟨fun _ => .non⟩
instance : Enc D := ⟨id⟩
instance {α : Type} [Enc α] : Enc (List α) := ⟨fun l => .lst (l.map enc)⟩
instance {α : Type} [Enc α] : Enc (Option α) := ⟨fun o => match o with | some x => enc x | none => .non⟩
instance {α : Type} [Enc α] : Enc (Tp1 α) := ⟨fun t => .tup [enc t.a]⟩
instance {α β : Type} [Enc α] [Enc β] : Enc (Tp2 α β) := ⟨fun t => .tup [enc t.a, enc t.b]⟩
instance {α β γ : Type} [Enc α] [Enc β] [Enc γ] : Enc (Tp3 α β γ) := ⟨fun t => .tup [enc t.a, enc t.b, enc t.c]⟩
instance {α β γ δ : Type} [Enc α] [Enc β] [Enc γ] [Enc δ] : Enc (Tp4 α β γ δ) := ⟨fun t => .tup [enc t.a, enc t.b, enc t.c, enc t.d]⟩
instance {α β γ δ ε : Type} [Enc α] [Enc β] [Enc γ] [Enc δ] [Enc ε] : Enc (Tp5 α β γ δ ε) := ⟨fun t => .tup [enc t.a, enc t.b, enc t.c, enc t.d, enc t.e]⟩

/-- a list that may change: at p, outside of what is known for good -/
def Mu (K : PySem.W.Frag) (B H : Hp) (p : Addr) (ds : List D) : Prop := B p = none ∧ ∃ xs, H p = some (.lst xs) ∧ RepL K B xs ds
/-- a list that stands in the written part -/
def KL (K : PySem.W.Frag) (a : Addr) (xs : List V) : Prop := ∃ (o : Obj) (its : Array Value) (n : Nat), K.lookup a = some o ∧ o.cls = .type "list" ∧ o.dict = none ∧ o.data = .seq its n ∧ its.size ≤ sizeLine ∧ Vals xs its.toList
/-- a list that is read: at v now -/
def Bor (K : PySem.W.Frag) (B H : Hp) (W : List Addr) (v : V) (ds : List D) : Prop := ∃ p xs, v = .ref p ∧ ((Rd H p (.lst xs) ∧ p ∉ W) ∨ KL K p xs) ∧ RepL K B xs ds
/-- what a return hands on -/
def Ret (K : PySem.W.Frag) (W : List Addr) (B H : Hp) (d : D) (Q : VK) : Prop := ∀ v B' H', Stp W B H B' H' → Rep K B' v d → Q v H'
/-- .. where the list at p may have changed -/
def RetM (K : PySem.W.Frag) (p : Addr) (B H : Hp) (d : D) (ds : List D) (Q : VK) : Prop := ∀ v B' H', Stp [p] B H B' H' → Mu K B' H' p ds → Rep K B' v d → Q v H'
/-- .. that is raised -/
def Rai (mg : Str → Option Value) (W : List Addr) (B H : Hp) (e : Err) (E : XK) : Prop := ∀ C B' H', mg e.cls = some (.ref C) → Stp W B H B' H' → E (.ref C) none H'
section
variable {K : PySem.W.Frag} {B B' B1 H H' H1 : Hp} {W : List Addr} {p q : Addr} {ds es : List D} {xs : List V} {d : D} {v : V} {Q : VK} {mg : Str → Option Value} {E : XK}
theorem Mu.step (m : Mu K B H p ds) (s : Stp W B H B' H') (h : p ∉ W) : Mu K B' H' p ds := by
  obtain ⟨hb, xs, hp, r⟩ := m
  exact ⟨s.nw p _ hb hp, xs, s.fr p _ h hp, r.mono s.ex⟩
theorem Mu.new (w : Ex B H) (h : H p = none) (r : RepL K B xs ds) : Mu K B (upd H p (.lst xs)) p ds := ⟨w.none h, xs, upd_same, r⟩
theorem Mu.bor (m : Mu K B H p ds) (h : p ∉ W) : Bor K B H W (.ref p) ds := by
  obtain ⟨hb, xs, hp, r⟩ := m
  exact ⟨p, xs, rfl, .inl ⟨.inl hp, h⟩, r⟩
theorem Mu.ne (m : Mu K B H p ds) (h : H q = none) : p ≠ q := by
  obtain ⟨hb, xs, hp, r⟩ := m
  exact ne_of_none hp h
theorem Bor.step (m : Bor K B H W v ds) (s : Stp W B H B' H') : Bor K B' H' W v ds := by
  obtain ⟨p, xs, e, hp, r⟩ := m
  refine ⟨p, xs, e, ?_, r.mono s.ex⟩
  rcases hp with ⟨hp | ⟨o, hp⟩, hw⟩ | hp
  · exact .inl ⟨.inl (s.fr p _ hw hp), hw⟩
  · exact .inl ⟨.inr ⟨o, s.fr p _ hw hp⟩, hw⟩
  · exact .inr hp
theorem Bor.w {W' : List Addr} (m : Bor K B H W v ds) (h : ∀ x, x ∈ W' → x ∈ W) : Bor K B H W' v ds := by
  obtain ⟨p, xs, e, hp, r⟩ := m
  refine ⟨p, xs, e, ?_, r⟩
  rcases hp with ⟨hp, hw⟩ | hp
  · exact .inl ⟨hp, fun z => hw (h p z)⟩
  · exact .inr hp
theorem Bor.sq (m : Bor K B H W v ds) : ∃ p xs, v = .ref p ∧ SqL K H p xs ∧ RepL K B xs ds := by
  obtain ⟨p, xs, e, hp, r⟩ := m
  refine ⟨p, xs, e, ?_, r⟩
  rcases hp with ⟨hp, _⟩ | hp
  · exact .inl hp
  · exact .inr hp
theorem Rep.bor (w : Ex B H) (r : Rep K B v (.lst ds)) (h : ∀ x, x ∈ W → B x = none) : Bor K B H W v ds := by
  cases r with
  | @lst p xs _ hp r =>
    refine ⟨p, xs, rfl, ?_, r⟩
    rcases hp with hp | hp
    · refine .inl ⟨w.rd hp, fun z => ?_⟩
      have e := h p z
      rcases hp with hp | ⟨o, hp⟩
      · rw [hp] at e; cases e
      · rw [hp] at e; cases e
    · exact .inr hp
theorem Rep.bor0 (w : Ex B H) (r : Rep K B v (.lst ds)) : Bor K B H [] v ds := r.bor w (fun _ z => nomatch z)
theorem Rep.sq (w : Ex B H) (r : Rep K B v (.lst ds)) : ∃ p xs, v = .ref p ∧ SqL K H p xs ∧ RepL K B xs ds := by
  cases r with
  | @lst p xs _ hp r => exact ⟨p, xs, rfl, w.l hp, r⟩
theorem Rep.st (w : Ex B H) (r : Rep K B v (.tup ds)) : ∃ p xs, v = .ref p ∧ SqT K H p xs ∧ RepL K B xs ds := by
  cases r with
  | @tup p xs _ hp r => exact ⟨p, xs, rfl, w.t hp, r⟩
theorem Mu.sq (m : Mu K B H p ds) : ∃ xs, H p = some (.lst xs) ∧ SqL K H p xs ∧ RepL K B xs ds := by
  obtain ⟨hb, xs, hp, r⟩ := m
  exact ⟨xs, hp, SqL.of hp, r⟩
theorem Stp.mut (w : Ex B H) (m : Mu K B H p ds) (r : RepL K B xs es) : Stp [p] B H B (upd H p (.lst xs)) ∧ Mu K B (upd H p (.lst xs)) p es := by
  obtain ⟨hb, ys, hp, _⟩ := m
  exact ⟨Stp.set w (by simp) hb hp, hb, xs, upd_same, r⟩
end
/-- the built-in type of a thing -/
def tyD : D → String
  | .non => "NoneType" | .bl _ => "bool" | .int _ => "int" | .str _ => "str" | .lst _ => "list" | .tup _ => "tuple" | .dic _ => "dict"
theorem Rep.ty {K : PySem.W.Frag} {B H : Hp} {v : V} {d : D} (w : Ex B H) (r : Rep K B v d) : TyX K H v (.type (tyD d)) := by
  cases r with
  | non => exact .base .non
  | bl b => exact .base (.bl b)
  | int i => exact .base (.int i)
  | str x => exact .base (.str x)
  | lst h r =>
    rcases h with (h | ⟨o, h⟩) | ⟨o, its, n, h, hc, _⟩
    · exact .base (.lst (w _ _ h))
    · exact .base (.frz (w _ _ h))
    · exact .kList h hc
  | tup h r =>
    rcases h with (h | ⟨o, h⟩) | ⟨o, its, n, h, hc, _⟩
    · exact .base (.tup (w _ _ h))
    · exact .fTuple (w _ _ h)
    · exact .kTuple h hc
  | dic h r => exact .base (.dK (w _ _ h))
def isS (s t : String) : Bool := s == t || (s == "bool" && t == "int")
def isA (t : String) (d : D) : Bool := isS (tyD d) t
theorem kit_tab : ∀ s ∈ ["NoneType", "bool", "int", "str", "list", "tuple", "dict"], ∀ t ∈ ["bool", "int", "str", "list", "tuple", "dict"], kitB s t = some (isS s t) := by decide +kernel
theorem tyD_in (d : D) : tyD d ∈ ["NoneType", "bool", "int", "str", "list", "tuple", "dict"] := by cases d <;> simp [tyD]
/-- isinstance(x, int | bool | str | list | tuple | dict) -/
theorem isi {K : PySem.W.Frag} {B H : Hp} {v : V} {d : D} {t : String} {Q : VK} (w : Ex B H) (r : Rep K B v d) (q : Q (.bl (isA t d)) H) (ht : t ∈ ["bool", "int", "str", "list", "tuple", "dict"] := by simp) : rIsi K [v, .ty t] H Q :=
  ⟨v, .ty t, _, .type t, isA t d, rfl, .ty t, r.ty w, kit_ty (kit_tab _ (tyD_in d) _ ht), q⟩
theorem boot_bool : bootBuiltins "bool" = some (.type "bool") := by decide +kernel
theorem boot_int : bootBuiltins "int" = some (.type "int") := by decide +kernel
theorem boot_str : bootBuiltins "str" = some (.type "str") := by decide +kernel
theorem boot_list : bootBuiltins "list" = some (.type "list") := by decide +kernel
theorem boot_tuple : bootBuiltins "tuple" = some (.type "tuple") := by decide +kernel
theorem boot_dict : bootBuiltins "dict" = some (.type "dict") := by decide +kernel

/-! ### readings, step by step -/
def NwL (xs : List V) (H : Hp) (Q : VK) : Prop := ∀ p, H p = none → Q (.ref p) (upd H p (.lst xs))
def NwT (xs : List V) (H : Hp) (Q : VK) : Prop := ∀ p, H p = none → Q (.ref p) (upd H p (.tup xs))
def NewL (xs : List V) (H : Hp) (Q : VK) : Prop := xs.length ≤ sizeLine ∧ NwL xs H Q
def NewT (xs : List V) (H : Hp) (Q : VK) : Prop := xs.length ≤ sizeLine ∧ NwT xs H Q
section
variable {K : PySem.W.Frag} {σ σ' : L2.St} {H : Hp} {Q : VK} {D' : Ends} {te ta tb tc : TE} {tt tt' : TT} {t u z : TS} {tl : TA} {v x y : V} {i j : Int} {n : Nat} {r r' : R2} {W : List Addr}
theorem h_seq (h : t { D' with nx := u D' } σ H) : tSeq t u D' σ H := h
theorem h_set (h : te σ H fun x H1 => u D' (σ.set n (some x)) H1) : tSeq (tAsg te (gName n)) u D' σ H := h
theorem h_set1 (h : te σ H fun x H1 => D'.nx (σ.set n (some x)) H1) : tAsg te (gName n) D' σ H := h
theorem h_nrm {T : L2.St → Hp → Prop} (h : T σ' H) (e : σ' = σ := by rfl) : T σ H := e ▸ h
theorem h_drop (h : te σ H fun _ H1 => D'.nx σ H1) : tDrop te D' σ H := h
theorem h_ret (h : te σ H D'.rt) : tRet te D' σ H := h
theorem h_if {c : TT} (h : c σ H fun b H1 => if b = true then t D' σ H1 else u D' σ H1) : tIfS c t u D' σ H := h
theorem h_next (h : D'.nx σ H) : tNext D' σ H := h
theorem h_nx {a c d : L2.St → Hp → Prop} {b : VK} (h : a σ H) : (Ends.mk a b c d).nx σ H := h
theorem h_var (e : σ[n]? = some (some v)) (h : Q v H) : tVar n σ H Q := ⟨v, e, h⟩
theorem h_c (h : Q v H) : tC v σ H Q := h
theorem h_op (h : ta σ H fun x H1 => tb σ H1 fun y H2 => r x y H2 Q) : tOp r ta tb σ H Q := h
theorem h_I0 {g : Int → Int → V} (h : Q (g i j) H) : rI0 g (.int i) (.int j) H Q := ⟨i, j, rfl, rfl, h⟩
theorem h_I {C : Int → Int → Prop} {g : Int → Int → V} (c : C i j) (h : Q (g i j) H) : rI C g (.int i) (.int j) H Q := ⟨i, j, rfl, rfl, c, h⟩
theorem h_un {f : V → Hp → VK → Prop} (h : ta σ H fun x H1 => f x H1 Q) : tUn f ta σ H Q := h
theorem h_U {g : Int → V} (h : Q (g i) H) : rU g (.int i) H Q := ⟨i, rfl, h⟩
theorem h_eq (s : scal x y = true) (h : Q (.bl (decide (x = y))) H) : rEq x y H Q := ⟨s, h⟩
theorem h_ne (s : scal x y = true) (h : Q (.bl (!decide (x = y))) H) : rNe x y H Q := ⟨s, h⟩
theorem dec_i : decide (V.int i = V.int j) = decide (i = j) := by simp
theorem dec_b {i j : Bool} : decide (V.bl i = V.bl j) = decide (i = j) := by simp
theorem dec_s {i j : Str} : decide (V.str i = V.str j) = decide (i = j) := by simp
theorem h_eqI (h : Q (.bl (decide (i = j))) H) : rEq (.int i) (.int j) H Q := ⟨rfl, by rw [dec_i]; exact h⟩
theorem h_neI (h : Q (.bl (!decide (i = j))) H) : rNe (.int i) (.int j) H Q := ⟨rfl, by rw [dec_i]; exact h⟩
theorem h_eqS {i j : Str} (h : Q (.bl (decide (i = j))) H) : rEq (.str i) (.str j) H Q := ⟨rfl, by rw [dec_s]; exact h⟩
theorem h_neS {i j : Str} (h : Q (.bl (!decide (i = j))) H) : rNe (.str i) (.str j) H Q := ⟨rfl, by rw [dec_s]; exact h⟩
theorem h_eqB {i j : Bool} (h : Q (.bl (decide (i = j))) H) : rEq (.bl i) (.bl j) H Q := ⟨rfl, by rw [dec_b]; exact h⟩
theorem h_neB {i j : Bool} (h : Q (.bl (!decide (i = j))) H) : rNe (.bl i) (.bl j) H Q := ⟨rfl, by rw [dec_b]; exact h⟩
theorem h_chain (h : ta σ H fun x H1 => tb σ H1 fun y H2 => r x y H2 fun z H3 => ∃ k, z = .bl k ∧ (if k = true then tc σ H3 fun w' H4 => r' y w' H4 Q else Q (.bl false) H3)) : tChain r r' ta tb tc σ H Q := h
theorem h_chk {k : Bool} {A : Prop} {w : V} {f : Bool → Prop} (hw : w = .bl k) (h : f k) : ∃ k, w = .bl k ∧ f k := ⟨k, hw, h⟩
theorem h_and (h : ta σ H fun x H1 => ∃ c, x = .bl c ∧ if c = true then tb σ H1 Q else Q (.bl false) H1) : tAndV ta tb σ H Q := h
theorem h_or (h : ta σ H fun x H1 => ∃ c, x = .bl c ∧ if c = true then Q (.bl true) H1 else tb σ H1 Q) : tOrV ta tb σ H Q := h
theorem h_not (h : ta σ H fun x H1 => ∃ c, x = .bl c ∧ Q (.bl (!c)) H1) : tNotV ta σ H Q := h
theorem h_tand {Q : Bool → Hp → Prop} (h : tt σ H fun c H1 => if c = true then tt' σ H1 Q else Q false H1) : tAnd tt tt' σ H Q := h
theorem h_tor {Q : Bool → Hp → Prop} (h : tt σ H fun c H1 => if c = true then Q true H1 else tt' σ H1 Q) : tOr tt tt' σ H Q := h
theorem h_tnot {Q : Bool → Hp → Prop} (h : tt σ H fun c H1 => Q (!c) H1) : tNot tt σ H Q := h
theorem h_test {Q : Bool → Hp → Prop} (h : te σ H fun x H' => ∃ k, x = .bl k ∧ Q k H') : tTest te σ H Q := h
theorem h_tB {Q : Bool → Hp → Prop} (h : te σ H fun x H' => ∃ k, x = .bl k ∧ Q k H') : tB te σ H Q := h
theorem h_bl {b : Bool} {f : Bool → Prop} (h : f b) : ∃ k, V.bl b = .bl k ∧ f k := ⟨b, rfl, h⟩
theorem h_iteT {A B : Prop} (h : A) : if true = true then A else B := by rw [if_pos rfl]; exact h
theorem h_iteF {A B : Prop} (h : B) : if false = true then A else B := by rw [if_neg Bool.false_ne_true]; exact h
theorem h_ite {b : Bool} {A B : Prop} (h1 : b = true → A) (h2 : b = false → B) : if b = true then A else B := by
  cases b
  · exact h_iteF (h2 rfl)
  · exact h_iteT (h1 rfl)
theorem h_ifE {c : TT} (h : c σ H fun b H1 => if b = true then ta σ H1 Q else tb σ H1 Q) : tIf c ta tb σ H Q := h
theorem h_nil {Q : List V → Hp → Prop} (h : Q [] H) : tNil σ H Q := h
theorem h_cons {Q : List V → Hp → Prop} (h : te σ H fun x H1 => tl σ H1 fun xs H2 => Q (x :: xs) H2) : tCons te tl σ H Q := h
theorem h_cb {f : List V → Hp → VK → Prop} (h : tl σ H fun vs H1 => f vs H1 Q) : tCB f tl σ H Q := h
theorem h_call {sp : Sp} {dvs : List V} {E : XK} (h : tl σ H fun vs H1 => sp (vs ++ dvs) H1 Q E) : tCall sp dvs E tl σ H Q := h
theorem h_callS {sp : Sp} {E : L2.St → XK} (h : tl σ H fun vs H1 => sp vs H1 Q (E σ)) : tCallS sp E tl σ H Q := h
theorem h_tup (h : tl σ H fun xs H1 => NewT xs H1 Q) : tTup tl σ H Q := h
theorem h_lst (h : tl σ H fun xs H1 => NewL xs H1 Q) : tLst tl σ H Q := h
theorem h_ixL {p : Addr} {xs : List V} (s : SqL K H p xs) (e : atI xs i = some v) (h : Q v H) : rIxL K (.ref p) (.int i) H Q := ⟨p, xs, i, v, rfl, rfl, s, e, h⟩
theorem h_ixT {p : Addr} {xs : List V} (s : SqT K H p xs) (e : atI xs i = some v) (h : Q v H) : rIxT K (.ref p) (.int i) H Q := ⟨p, xs, i, v, rfl, rfl, s, e, h⟩
end

section
variable {K : PySem.W.Frag} {σ : L2.St} {B B1 B' H H1 H' B0 H0 : Hp} {Q : VK} {W W' : List Addr} {p q : Addr} {xs ys : List V} {ds es : List D} {v : V} {d : D} {i j : Int} {te ta tb : TE}
theorem h_newL (w : Ex B H) (r : RepL K B xs ds) (h : ∀ p B' H', Stp [] B H B' H' → Rep K B' (.ref p) (.lst ds) → Q (.ref p) H') (hn : xs.length ≤ sizeLine) : NewL xs H Q :=
  ⟨hn, fun p hp => h p _ _ (Stp.new w hp) (.lst (SqL.of upd_same) (r.mono (Ex.new (w.none hp))))⟩
theorem h_newT (w : Ex B H) (r : RepL K B xs ds) (h : ∀ p B' H', Stp [] B H B' H' → Rep K B' (.ref p) (.tup ds) → Q (.ref p) H') (hn : xs.length ≤ sizeLine) : NewT xs H Q :=
  ⟨hn, fun p hp => h p _ _ (Stp.new w hp) (.tup (SqT.of upd_same) (r.mono (Ex.new (w.none hp))))⟩
theorem h_newM (w : Ex B H) (r : RepL K B xs ds) (h : ∀ p H', H p = none → Stp [] B H B H' → Mu K B H' p ds → Q (.ref p) H') (hn : xs.length ≤ sizeLine) : NewL xs H Q :=
  ⟨hn, fun p hp => h p _ hp (Stp.newM w hp) (Mu.new w hp r)⟩
theorem h_nwL (w : Ex B H) (r : RepL K B xs ds) (h : ∀ p B' H', Stp [] B H B' H' → Rep K B' (.ref p) (.lst ds) → Q (.ref p) H') : NwL xs H Q :=
  fun p hp => h p _ _ (Stp.new w hp) (.lst (SqL.of upd_same) (r.mono (Ex.new (w.none hp))))
theorem h_nwT (w : Ex B H) (r : RepL K B xs ds) (h : ∀ p B' H', Stp [] B H B' H' → Rep K B' (.ref p) (.tup ds) → Q (.ref p) H') : NwT xs H Q :=
  fun p hp => h p _ _ (Stp.new w hp) (.tup (SqT.of upd_same) (r.mono (Ex.new (w.none hp))))
theorem h_nwM (w : Ex B H) (r : RepL K B xs ds) (h : ∀ p H', H p = none → Stp [] B H B H' → Mu K B H' p ds → Q (.ref p) H') : NwL xs H Q :=
  fun p hp => h p _ hp (Stp.newM w hp) (Mu.new w hp r)
/-- what was free now was free at the entry -/
theorem Stp.nn (s : Stp W B0 H0 B H) (h : H p = none) : H0 p = none := by
  cases e : H0 p with
  | none => rfl
  | some o => obtain ⟨u, q⟩ := s.al p o e; rw [h] at q; cases q
/-- a step that writes at an object of our own -/
theorem Stp.own2 (a : Stp W B0 H0 B H) (s : Stp [p] B H B' H') (h0 : H0 p = none) : Stp W B0 H0 B' H' :=
  ⟨a.ex.trans s.ex, s.ok, fun x u hx e => s.fr x u (fun z => by
      rw [List.mem_singleton.mp z, h0] at e; cases e) (a.fr x u hx e), fun x u e => let ⟨u1, e1⟩ := a.al x u e; s.al x u1 e1, fun x u hb e => let ⟨u1, e1⟩ := a.al x u e; s.nw x u1 (a.nw x u hb e) e1⟩
theorem nm0 : p ∉ ([] : List Addr) := fun z => nomatch z
theorem nm1 (h : p ≠ q) : p ∉ [q] := fun z => h (List.mem_singleton.mp z)
theorem sub0 : ∀ x, x ∈ ([] : List Addr) → x ∈ W := fun _ z => nomatch z
/-- a list of our own is kept as it is -/
theorem Mu.keep (m : Mu K B H p ds) : ∃ B', Ex B B' ∧ (∀ q, q ≠ p → B q = none → B' q = none) ∧ (∀ W B0 H0, Stp W B0 H0 B H → Ex B0 H0 → H0 p = none → Stp W B0 H0 B' H) ∧ Rep K B' (.ref p) (.lst ds) := by
  obtain ⟨hb, xs, hp, r⟩ := m
  exact ⟨upd B p (.lst xs), Ex.new hb, fun q n e => by rw [upd_ne n]; exact e, fun W B0 H0 st w0 h0 => Stp.keep w0 st h0 hb hp, .lst (SqL.of upd_same) (r.mono (Ex.new hb))⟩
/-- a step that writes at what may be written and at objects of our own -/
theorem Stp.go (a : Stp W B0 H0 B H) (s : Stp W' B H B' H') (h : ∀ p, p ∈ W' → p ∈ W ∨ H0 p = none) : Stp W B0 H0 B' H' :=
  ⟨a.ex.trans s.ex, s.ok, fun x u hx e => s.fr x u (fun z => by
      rcases h x z with q | q
      · exact hx q
      · rw [q] at e; cases e) (a.fr x u hx e), fun x u e => let ⟨u1, e1⟩ := a.al x u e; s.al x u1 e1, fun x u hb e => let ⟨u1, e1⟩ := a.al x u e; s.nw x u1 (a.nw x u hb e) e1⟩
theorem go0 {F : Addr → Prop} : ∀ x, x ∈ ([] : List Addr) → F x := fun _ z => nomatch z
theorem go1 {F : Addr → Prop} (h : F p) : ∀ x, x ∈ [p] → F x := fun x z => by rw [List.mem_singleton.mp z]; exact h
theorem go2 {F : Addr → Prop} (h : F p) (h' : F q) : ∀ x, x ∈ [p, q] → F x := fun x z => by
  rcases List.mem_cons.mp z with e | e
  · rw [e]; exact h
  · rw [List.mem_singleton.mp e]; exact h'
theorem go3 {F : Addr → Prop} {r : Addr} (h : F p) (h' : F q) (h2 : F r) : ∀ x, x ∈ [p, q, r] → F x := fun x z => by
  rcases List.mem_cons.mp z with e | e
  · rw [e]; exact h
  · exact go2 h' h2 x e
theorem go4 {F : Addr → Prop} {r r2 : Addr} (h : F p) (h' : F q) (h2 : F r) (h3 : F r2) : ∀ x, x ∈ [p, q, r, r2] → F x := fun x z => by
  rcases List.mem_cons.mp z with e | e
  · rw [e]; exact h
  · exact go3 h' h2 h3 x e
theorem nm2 {r : Addr} (h : p ≠ q) (h' : p ≠ r) : p ∉ [q, r] := fun z => by
  rcases List.mem_cons.mp z with e | e
  · exact h e
  · exact h' (List.mem_singleton.mp e)
theorem nm3 {r r2 : Addr} (h : p ≠ q) (h' : p ≠ r) (h2 : p ≠ r2) : p ∉ [q, r, r2] := fun z => by
  rcases List.mem_cons.mp z with e | e
  · exact h e
  · exact nm2 h' h2 e
theorem nm4 {r r2 r3 : Addr} (h : p ≠ q) (h' : p ≠ r) (h2 : p ≠ r2) (h3 : p ≠ r3) : p ∉ [q, r, r2, r3] := fun z => by
  rcases List.mem_cons.mp z with e | e
  · exact h e
  · exact nm3 h' h2 h3 e
theorem Mu.kp (m : Mu K B H q es) (e : Ex B B') (k : ∀ q, q ≠ p → B q = none → B' q = none) (n : q ≠ p) : Mu K B' H q es := by
  obtain ⟨hb, xs, hp, r⟩ := m
  exact ⟨k q n hb, xs, hp, r.mono e⟩
theorem RepL.atE {α : Type} [Enc α] {l : List α} {x : α} (r : RepL K B xs (l.map enc)) (h : atI l i = some x) : ∃ v, atI xs i = some v ∧ Rep K B v (enc x) := by
  refine r.at ?_
  unfold atI at h ⊢
  rw [List.length_map]
  cases e : ixN l.length i with
  | none => rw [e] at h; cases h
  | some k =>
    rw [e] at h
    show (l.map enc)[k]? = _
    rw [List.getElem?_map, show l[k]? = some x from h]
    rfl
theorem h_pow {k : Int} (e : i ^ j.toNat = k) (c : CPow i j) (h : Q (.int k) H) : rI CPow (fun i j => .int (i ^ j.toNat)) (.int i) (.int j) H Q := ⟨i, j, rfl, rfl, c, by show Q (.int (i ^ j.toNat)) H; rw [e]; exact h⟩
instance (i j : Int) : Decidable (CPow i j) := by unfold CPow; infer_instance
instance (i j : Int) : Decidable (CMul i j) := by unfold CMul; infer_instance
instance (i j : Int) : Decidable (CDiv i j) := by unfold CDiv; infer_instance
def absI (i : Int) : Int := if i < 0 then -i else i
def b2z (b : Bool) : Int := if b then 1 else 0
theorem h_isB {a b : Bool} (h : Q (.bl (decide (a = b))) H) : rIsB (.bl a) (.bl b) H Q := ⟨a, b, rfl, rfl, h⟩
theorem h_isnotB {a b : Bool} (h : Q (.bl (!decide (a = b))) H) : rNotB (.bl a) (.bl b) H Q := ⟨a, b, rfl, rfl, h⟩
def rLenY (K : PySem.W.Frag) : List V → Hp → VK → Prop := fun xs H Q => ∃ p ys, xs = [.ref p] ∧ (SqL K H p ys ∨ SqT K H p ys) ∧ Q (.int ys.length) H
def rAbsY : List V → Hp → VK → Prop := fun xs H Q => ∃ i, xs = [.int i] ∧ Q (.int (if i < 0 then -i else i)) H
def rIntY : List V → Hp → VK → Prop := fun xs H Q => (∃ i, xs = [.int i] ∧ Q (.int i) H) ∨ ∃ k, xs = [.bl k] ∧ Q (.int (if k then 1 else 0)) H
def rStrY : List V → Hp → VK → Prop := fun xs H Q => ∃ i, xs = [.int i] ∧ i.natAbs.log2 < 1920 ∧ Q (.str (toString i)) H
def rListY (K : PySem.W.Frag) : List V → Hp → VK → Prop := fun xs H Q => ∃ p ys, xs = [.ref p] ∧ (SqL K H p ys ∨ SqT K H p ys) ∧ ∀ l, H l = none → Q (.ref l) (upd H l (.lst ys))
def rTupY (K : PySem.W.Frag) : List V → Hp → VK → Prop := fun xs H Q => ∃ p ys, xs = [.ref p] ∧ ((SqL K H p ys ∧ ∀ l, H l = none → Q (.ref l) (upd H l (.tup ys))) ∨ (SqT K H p ys ∧ Q (.ref p) H))
theorem cr_len {X : Cx} : CallR X (.builtin "len") (rLenY X.K) := call_len_seq
theorem cr_abs {X : Cx} : CallR X (.builtin "abs") rAbsY := call_abs
theorem cr_int {X : Cx} : CallR X (.type "int") rIntY := call_int1
theorem cr_str {X : Cx} : CallR X (.type "str") rStrY := call_str_int
theorem cr_list {X : Cx} : CallR X (.type "list") (rListY X.K) := call_list_of
theorem cr_tuple {X : Cx} : CallR X (.type "tuple") (rTupY X.K) := call_tuple_of
theorem h_len {α : Type} [Enc α] {l : List α} (s : SqL K H p xs) (r : RepL K B xs (l.map enc)) (h : Q (.int l.length) H) : rLenY K [V.ref p] H Q := by
  refine ⟨p, xs, rfl, .inl s, ?_⟩
  rw [show xs.length = l.length from by rw [r.length, List.length_map]]
  exact h
theorem h_lenT (s : SqT K H p xs) (r : RepL K B xs ds) (h : Q (.int ds.length) H) : rLenY K [V.ref p] H Q := by
  refine ⟨p, xs, rfl, .inr s, ?_⟩
  rw [r.length]
  exact h
theorem h_abs (h : Q (.int (absI i)) H) : rAbsY [V.int i] H Q := ⟨i, rfl, h⟩
theorem h_intB {b : Bool} (h : Q (.int (b2z b)) H) : rIntY [V.bl b] H Q := .inr ⟨b, rfl, h⟩
theorem h_intI (h : Q (.int i) H) : rIntY [V.int i] H Q := .inl ⟨i, rfl, h⟩
theorem h_str (c : i.natAbs.log2 < 1920) (h : Q (.str (toString i)) H) : rStrY [V.int i] H Q := ⟨i, rfl, c, h⟩
theorem h_listL (s : SqL K H p xs) (h : NwL xs H Q) : rListY K [V.ref p] H Q := ⟨p, xs, rfl, .inl s, h⟩
theorem h_listT (s : SqT K H p xs) (h : NwL xs H Q) : rListY K [V.ref p] H Q := ⟨p, xs, rfl, .inr s, h⟩
theorem h_tupL (s : SqL K H p xs) (h : NwT xs H Q) : rTupY K [V.ref p] H Q := ⟨p, xs, rfl, .inl ⟨s, h⟩⟩
theorem h_iteN {b : Bool} {A C : Prop} (h1 : b = false → A) (h2 : b = true → C) : if (!b) = true then A else C := by
  cases b
  · exact h_iteT (h1 rfl)
  · exact h_iteF (h2 rfl)
theorem h_iteNT {A C : Prop} (h : C) : if (!true) = true then A else C := h_iteF h
theorem h_iteNF {A C : Prop} (h : A) : if (!false) = true then A else C := h_iteT h
theorem Post.iteTn {α : Type} {m m' : Res α} {P : α → Prop} {R : Err → Prop} {c : Bool} (h : Post (if (!c) = true then m else m') P R) (hc : c = false) : Post m P R := by
  rw [hc] at h; exact h
theorem Post.iteFn {α : Type} {m m' : Res α} {P : α → Prop} {R : Err → Prop} {c : Bool} (h : Post (if (!c) = true then m else m') P R) (hc : c = true) : Post m' P R := by
  rw [hc] at h; exact h
end

/-! ### joins, loops, comprehensions, in step with the mirror -/
section
variable {K : PySem.W.Frag} {σ : L2.St} {B B1 B' H H1 H' B0 H0 : Hp} {Q : VK} {W W' : List Addr} {p q : Addr} {xs ys : List V} {ds es : List D} {v : V} {d : D} {t z tb : TS} {te : TE} {c tt : TT} {D' : Ends} {g : TG} {ti : TI}
variable {α β S R' : Type} {P : β → Prop} {R : Err → Prop}
theorem h_joinS {m : Res α} {k : α → Res β} (hP : Post (m.bind k) P R) (J : α → L2.St → Hp → Prop)
    (h1 : ∀ N : L2.St → Hp → Prop, (∀ a σ' H', J a σ' H' → Post (k a) P R → N σ' H') → Post m (fun a => Post (k a) P R) R → t { D' with nx := N } σ H)
    (h2 : ∀ a σ' H', J a σ' H' → Post (k a) P R → z D' σ' H') : tSeq t z D' σ H := h1 _ h2 hP.bind
theorem h_condJ {m : Res Bool} {k : Bool → Res β} {Qb : Bool → Hp → Prop} (hP : Post (m.bind k) P R) (J : Hp → Prop)
    (h1 : ∀ N : Bool → Hp → Prop, (∀ b H', J H' → Post (k b) P R → N b H') → Post m (fun b => Post (k b) P R) R → c σ H N)
    (h2 : ∀ b H', J H' → Post (k b) P R → Qb b H') : c σ H Qb := h1 _ h2 hP.bind
theorem h_exprJ {m : Res α} {k : α → Res β} (hP : Post (m.bind k) P R) (J : α → V → Hp → Prop)
    (h1 : ∀ N : VK, (∀ a v H', J a v H' → Post (k a) P R → N v H') → Post m (fun a => Post (k a) P R) R → te σ H N)
    (h2 : ∀ a v H', J a v H' → Post (k a) P R → Q v H') : te σ H Q := h1 _ h2 hP.bind
theorem h_gname {n : Nat} {Q : L2.St → Hp → Prop} (h : Q (σ.set n (some v)) H) : gName n v σ H Q := h
/-- behind a loop -/
def afterR (k : S → Res β) : Fl S β → Res β
  | .nx s => k s | .rt r => .ok r | .bk s => k s
/-- a join of ways of which some end the def (or the turn) -/
theorem h_joinF {m : Res (Fl S β)} {k : S → Res β} (hP : Post (m.bind (afterR k)) P R) (J : S → L2.St → Hp → Prop)
    (h1 : ∀ (N : L2.St → Hp → Prop) (T : Fl S β → Prop), (∀ a σ' H', J a σ' H' → T (.nx a) → N σ' H') → (∀ r, T (.rt r) → P r) → Post m T R → t { D' with nx := N } σ H)
    (h2 : ∀ a σ' H', J a σ' H' → Post (k a) P R → z D' σ' H') : tSeq t z D' σ H :=
  h1 _ (fun a => Post (afterR k a) P R) (fun a σ' H' j q => h2 a σ' H' j q) (fun _ q => (q : Post (.ok _) P R).ok) hP.bind
/-- what a turn hands on -/
def turnR (l : List α) (f : α → S → Res (Fl S R')) (i : Nat) (P : Fl S R' → Prop) (R : Err → Prop) : Fl S R' → Prop
  | .nx s => Post (forR (l.drop i) s f) P R | .rt r => P (.rt r) | .bk s => P (.bk s)
theorem Post.turn {l : List α} {i : Nat} {s : S} {f : α → S → Res (Fl S R')} {P : Fl S R' → Prop} {x : α} (h : Post (forR (l.drop i) s f) P R) (hx : l[i]? = some x) : Post (f x s) (turnR l f (i + 1) P R) R :=
  (Post.forS h hx).mono (fun r q => by cases r <;> exact q) fun _ q => q

theorem h_forE (h : te σ H fun x H1 => tFor (iList K (tC x)) g tb D' σ H1) : tFor (iList K te) g tb D' σ H := h
theorem h_forL [Enc α] {l : List α} {s0 : S} {f : α → S → Res (Fl S β)} {k : S → Res β} (hP : Post ((forR l s0 f).bind (afterR k)) P R) (hs : SqL K H p xs) (hr : RepL K B xs (l.map enc))
    (J : S → L2.St → Hp → Prop) (h0 : J s0 σ H) (hl : ∀ s σ' H', J s σ' H' → SqL K H' p xs)
    (hb : ∀ (N : L2.St → Hp → Prop) (T : Fl S β → Prop) (x : α) v s σ' H', J s σ' H' → Rep K B v (enc x) → (∀ s' σ2 H2, J s' σ2 H2 → T (.nx s') → N σ2 H2) → (∀ r, T (.rt r) → P r) → (∀ s' σ2 H2, J s' σ2 H2 → T (.bk s') → D'.nx σ2 H2) → Post (f x s) T R →
      g v σ' H' fun σ2 H2 => tb { D' with nx := N, ct := N, bk := D'.nx } σ2 H2)
    (hd : ∀ s σ' H', J s σ' H' → Post (k s) P R → D'.nx σ' H') : tFor (iList K (tC (.ref p))) g tb D' σ H := by
  refine ⟨p, rfl, ⟨xs, hs⟩, for_list (K := K) (a := p) (xs := xs) (fun i σ' H' => ∃ s, J s σ' H' ∧ Post (forR (l.drop i) s f) (fun a => Post (afterR k a) P R) R) ⟨s0, h0, hP.bind⟩ (fun i σ' H' _ ⟨s, j, _⟩ => hl s σ' H' j) ?_ ?_⟩
  · rintro i y σ' H' hi ⟨s, j, q⟩
    obtain ⟨x, hx⟩ : ∃ x, l[i]? = some x := by
      have h1 := (List.getElem?_eq_some_iff.mp hi).1
      rw [hr.length, List.length_map] at h1
      exact ⟨l[i], List.getElem?_eq_getElem h1⟩
    obtain ⟨u, hu, ru⟩ := hr.get (i := i) (d := enc x) (by rw [List.getElem?_map, hx]; rfl)
    rw [hi] at hu; cases hu
    exact hb _ _ x y s σ' H' j ru (fun s' σ2 H2 j2 t2 => ⟨s', j2, t2⟩) (fun r t2 => (t2 : Post (.ok r) P R).ok) (fun s' σ2 H2 j2 t2 => hd s' σ2 H2 j2 t2) (q.turn hx)
  · rintro σ' H' ⟨s, j, q⟩
    exact hd s σ' H' j (q.forN (by rw [hr.length, List.length_map]; exact Nat.le_refl _))
theorem h_forTE (h : te σ H fun x H1 => tFor (iTup K (tC x)) g tb D' σ H1) : tFor (iTup K te) g tb D' σ H := h
theorem h_forT [Enc α] {l : List α} {s0 : S} {f : α → S → Res (Fl S β)} {k : S → Res β} (hP : Post ((forR l s0 f).bind (afterR k)) P R) (hs : SqT K H p xs) (hr : RepL K B xs (l.map enc))
    (J : S → L2.St → Hp → Prop) (h0 : J s0 σ H) (hl : ∀ s σ' H', J s σ' H' → SqT K H' p xs)
    (hb : ∀ (N : L2.St → Hp → Prop) (T : Fl S β → Prop) (x : α) v s σ' H', J s σ' H' → Rep K B v (enc x) → (∀ s' σ2 H2, J s' σ2 H2 → T (.nx s') → N σ2 H2) → (∀ r, T (.rt r) → P r) → (∀ s' σ2 H2, J s' σ2 H2 → T (.bk s') → D'.nx σ2 H2) → Post (f x s) T R →
      g v σ' H' fun σ2 H2 => tb { D' with nx := N, ct := N, bk := D'.nx } σ2 H2)
    (hd : ∀ s σ' H', J s σ' H' → Post (k s) P R → D'.nx σ' H') : tFor (iTup K (tC (.ref p))) g tb D' σ H := by
  refine ⟨p, rfl, ⟨xs, hs⟩, for_tup (K := K) (a := p) (xs := xs) (fun i σ' H' => ∃ s, J s σ' H' ∧ Post (forR (l.drop i) s f) (fun a => Post (afterR k a) P R) R) ⟨s0, h0, hP.bind⟩ (fun i σ' H' _ ⟨s, j, _⟩ => hl s σ' H' j) ?_ ?_⟩
  · rintro i y σ' H' hi ⟨s, j, q⟩
    obtain ⟨x, hx⟩ : ∃ x, l[i]? = some x := by
      have h1 := (List.getElem?_eq_some_iff.mp hi).1
      rw [hr.length, List.length_map] at h1
      exact ⟨l[i], List.getElem?_eq_getElem h1⟩
    obtain ⟨u, hu, ru⟩ := hr.get (i := i) (d := enc x) (by rw [List.getElem?_map, hx]; rfl)
    rw [hi] at hu; cases hu
    exact hb _ _ x y s σ' H' j ru (fun s' σ2 H2 j2 t2 => ⟨s', j2, t2⟩) (fun r t2 => (t2 : Post (.ok r) P R).ok) (fun s' σ2 H2 j2 t2 => hd s' σ2 H2 j2 t2) (q.turn hx)
  · rintro σ' H' ⟨s, j, q⟩
    exact hd s σ' H' j (q.forN (by rw [hr.length, List.length_map]; exact Nat.le_refl _))
/-- the ints from lo on, below hi -/
def rngI (lo hi : Int) : List Int := (List.range (hi - lo).toNat).map fun (i : Nat) => lo + (i : Int)
theorem rngI_get {lo hi : Int} {i : Nat} (h : i < (hi - lo).toNat) : (rngI lo hi)[i]? = some (lo + (i : Int)) := by
  unfold rngI
  rw [List.getElem?_map, List.getElem?_range h]
  rfl
theorem rngI_len {lo hi : Int} : (rngI lo hi).length = (hi - lo).toNat := by
  unfold rngI
  rw [List.length_map, List.length_range]
def Rng1 (vs : List V) (g : TG) (tb : TS) (D' : Ends) (σ : L2.St) (H : Hp) : Prop := tFor (iRng1 (fun _ H Q => Q vs H)) g tb D' σ H
def Rng2 (vs : List V) (g : TG) (tb : TS) (D' : Ends) (σ : L2.St) (H : Hp) : Prop := tFor (iRng2 (fun _ H Q => Q vs H)) g tb D' σ H
theorem h_rng1 {ta : TA} (h : ta σ H fun vs H1 => Rng1 vs g tb D' σ H1) : tFor (iRng1 ta) g tb D' σ H := h
theorem h_rng2 {ta : TA} (h : ta σ H fun vs H1 => Rng2 vs g tb D' σ H1) : tFor (iRng2 ta) g tb D' σ H := h
theorem forRng {lo hi : Int} {s0 : S} {f : Int → S → Res (Fl S β)} {k : S → Res β} (hP : Post ((forR (rngI lo hi) s0 f).bind (afterR k)) P R)
    (J : S → L2.St → Hp → Prop) (h0 : J s0 σ H)
    (hb : ∀ (N : L2.St → Hp → Prop) (T : Fl S β → Prop) (x : Int) s σ' H', J s σ' H' → lo ≤ x → x < hi → (∀ s' σ2 H2, J s' σ2 H2 → T (.nx s') → N σ2 H2) → (∀ r, T (.rt r) → P r) → (∀ s' σ2 H2, J s' σ2 H2 → T (.bk s') → D'.nx σ2 H2) → Post (f x s) T R →
      g (.int x) σ' H' fun σ2 H2 => tb { D' with nx := N, ct := N, bk := D'.nx } σ2 H2)
    (hd : ∀ s σ' H', J s σ' H' → Post (k s) P R → D'.nx σ' H') :
    ∃ W : Nat → Nat → L2.St → Hp → Prop, (∃ m, W 0 m σ H) ∧ ∀ i m σ H, W i m σ H →
      ((Itr lo (hi - lo).toNat).stop i H ∧ D'.nx σ H) ∨ ((Itr lo (hi - lo).toNat).go i H ∧ ∃ N : L2.St → Hp → Prop, (∀ σ' H', N σ' H' → ∃ m', m' < m ∧ W (i + 1) m' σ' H') ∧ ∀ x H', (Itr lo (hi - lo).toNat).yld i H x H' → g x σ H' fun σ2 H2 => tb { D' with nx := N, ct := N, bk := D'.nx } σ2 H2) := by
  refine for_range (lo := lo) (n := (hi - lo).toNat) (fun i σ' H' => ∃ s, J s σ' H' ∧ Post (forR ((rngI lo hi).drop i) s f) (fun a => Post (afterR k a) P R) R) ⟨s0, h0, hP.bind⟩ ?_ ?_
  · rintro i σ' H' hi' ⟨s, j, q⟩
    exact hb _ _ (lo + (i : Int)) s σ' H' j (by omega) (by omega) (fun s' σ2 H2 j2 t2 => ⟨s', j2, t2⟩) (fun r t2 => (t2 : Post (.ok r) P R).ok) (fun s' σ2 H2 j2 t2 => hd s' σ2 H2 j2 t2) (q.turn (rngI_get hi'))
  · rintro σ' H' ⟨s, j, q⟩
    exact hd s σ' H' j (q.forN (by rw [rngI_len]; exact Nat.le_refl _))
theorem h_forR1 {hi : Int} {s0 : S} {f : Int → S → Res (Fl S β)} {k : S → Res β} (hP : Post ((forR (rngI 0 hi) s0 f).bind (afterR k)) P R) (hz : -(2 ^ 62) ≤ hi ∧ hi < 2 ^ 62)
    (J : S → L2.St → Hp → Prop) (h0 : J s0 σ H)
    (hb : ∀ (N : L2.St → Hp → Prop) (T : Fl S β → Prop) (x : Int) s σ' H', J s σ' H' → 0 ≤ x → x < hi → (∀ s' σ2 H2, J s' σ2 H2 → T (.nx s') → N σ2 H2) → (∀ r, T (.rt r) → P r) → (∀ s' σ2 H2, J s' σ2 H2 → T (.bk s') → D'.nx σ2 H2) → Post (f x s) T R →
      g (.int x) σ' H' fun σ2 H2 => tb { D' with nx := N, ct := N, bk := D'.nx } σ2 H2)
    (hd : ∀ s σ' H', J s σ' H' → Post (k s) P R → D'.nx σ' H') : Rng1 [.int hi] g tb D' σ H := by
  have q := forRng hP J h0 hb hd
  rw [Int.sub_zero] at q
  exact ⟨hi, rfl, hz.1, hz.2, q⟩
theorem h_forR2 {lo hi : Int} {s0 : S} {f : Int → S → Res (Fl S β)} {k : S → Res β} (hP : Post ((forR (rngI lo hi) s0 f).bind (afterR k)) P R) (hz : (-(2 ^ 62) ≤ lo ∧ lo < 2 ^ 62) ∧ -(2 ^ 62) ≤ hi ∧ hi < 2 ^ 62)
    (J : S → L2.St → Hp → Prop) (h0 : J s0 σ H)
    (hb : ∀ (N : L2.St → Hp → Prop) (T : Fl S β → Prop) (x : Int) s σ' H', J s σ' H' → lo ≤ x → x < hi → (∀ s' σ2 H2, J s' σ2 H2 → T (.nx s') → N σ2 H2) → (∀ r, T (.rt r) → P r) → (∀ s' σ2 H2, J s' σ2 H2 → T (.bk s') → D'.nx σ2 H2) → Post (f x s) T R →
      g (.int x) σ' H' fun σ2 H2 => tb { D' with nx := N, ct := N, bk := D'.nx } σ2 H2)
    (hd : ∀ s σ' H', J s σ' H' → Post (k s) P R → D'.nx σ' H') : Rng2 [.int lo, .int hi] g tb D' σ H :=
  ⟨lo, hi, rfl, ⟨hz.1.1, hz.1.2, hz.2.1, hz.2.2⟩, forRng hP J h0 hb hd⟩

/-! comprehensions -/
def compL : List α → S → (α → S → Res (Option R' × S)) → Res (List R' × S)
  | [], s, _ => .ok ([], s)
  | x :: xs, s, f => (f x s).bind fun r => (compL xs r.2 f).bind fun q => .ok (match r.1 with | some b => b :: q.1 | none => q.1, q.2)
def compR (l : List α) (s : S) (f : α → S → Res (Option R' × S)) : Res (List R' × S) := guardR (l.length ≤ 1000000) (compL l s f)
def compT (l : List α) (f : α → S → Res (Option R' × S)) (k : List R' × S → Res β) (acc : List R') (P : β → Prop) (R : Err → Prop) : Option R' × S → Prop
  | (some b, s) => Post ((compL l s f).bind fun q => k (acc ++ [b] ++ q.1, q.2)) P R
  | (none, s) => Post ((compL l s f).bind fun q => k (acc ++ q.1, q.2)) P R
theorem Post.compS {l : List α} {i : Nat} {s : S} {f : α → S → Res (Option R' × S)} {k : List R' × S → Res β} {acc : List R'} {x : α} (h : Post ((compL (l.drop i) s f).bind fun q => k (acc ++ q.1, q.2)) P R) (hx : l[i]? = some x) :
    Post (f x s) (compT (l.drop (i + 1)) f k acc P R) R := by
  obtain ⟨hi, e⟩ := List.getElem?_eq_some_iff.mp hx
  rw [List.drop_eq_getElem_cons hi, e] at h
  have h2 := (Post.bind (Post.bind h))
  refine h2.mono (fun r q => ?_) fun _ q => q
  obtain ⟨o, s'⟩ := r
  cases o with
  | some b =>
    show Post ((compL (l.drop (i + 1)) s' f).bind fun q => k (acc ++ [b] ++ q.1, q.2)) P R
    have q1 : Post ((compL (l.drop (i + 1)) s' f).bind fun q => .ok (b :: q.1, q.2)) (fun a => Post (k (acc ++ a.1, a.2)) P R) R := q
    generalize compL (l.drop (i + 1)) s' f = m at q1 ⊢
    cases m with
    | ok a =>
      have q2 : Post (k (acc ++ (b :: a.1), a.2)) P R := q1.ok
      show Post (k (acc ++ [b] ++ a.1, a.2)) P R
      rw [List.append_assoc]
      exact q2
    | err e => exact ⟨q1.h0⟩
    | stuck => exact ⟨q1.h0⟩
  | none =>
    show Post ((compL (l.drop (i + 1)) s' f).bind fun q => k (acc ++ q.1, q.2)) P R
    have q1 : Post ((compL (l.drop (i + 1)) s' f).bind fun q => .ok (q.1, q.2)) (fun a => Post (k (acc ++ a.1, a.2)) P R) R := q
    generalize compL (l.drop (i + 1)) s' f = m at q1 ⊢
    cases m
    · exact q1.ok
    · exact ⟨q1.h0⟩
    · exact ⟨q1.h0⟩
theorem h_app1 [Enc α] {l : List α} {b : α} {y : V} {N : Hp → Prop} (w : Ex B H) (m : Mu K B H p (l.map enc)) (r : Rep K B y (enc b)) (hz : l.length < sizeLine) (h : ∀ H', Stp [p] B H B H' → Mu K B H' p ((l ++ [b]).map enc) → N H') :
    ∃ acc, H p = some (.lst acc) ∧ acc.length < sizeLine ∧ N (upd H p (.lst (acc ++ [y]))) := by
  obtain ⟨hb, xs, hp, hr⟩ := id m
  refine ⟨xs, hp, by rw [hr.length, List.length_map]; exact hz, ?_⟩
  have rl : RepL K B (xs ++ [y]) ((l ++ [b]).map enc) := by
    rw [List.map_append]
    exact hr.append (.cons r .nil)
  obtain ⟨s, m'⟩ := Stp.mut w m rl
  exact h _ s m'
def LcL (K : PySem.W.Frag) (v : V) (g : TG) (tt : TT) (te : TE) (vs : List Nat) (σ : L2.St) (H : Hp) (Q : VK) : Prop := tLc (iList K (tC v)) g tt te vs σ H Q
theorem h_lcE {vs : List Nat} {tl : TE} (h : tl σ H fun x H1 => LcL K x g tt te vs σ H1 Q) : tLc (iList K tl) g tt te vs σ H Q := h
def LcT (σ : L2.St) (vs : List Nat) (tt : TT) (te : TE) (Dl : Addr) (N : Hp → Prop) : L2.St → Hp → Prop := fun σ2 H2 => wipe σ2 vs = wipe σ vs ∧ tt σ2 H2 fun b H3 =>
  if b = true then te σ2 H3 fun y H4 => ∃ acc, H4 Dl = some (.lst acc) ∧ acc.length < sizeLine ∧ N (upd H4 Dl (.lst (acc ++ [y]))) else N H3
def App (Dl : Addr) (N : Hp → Prop) : VK := fun y H4 => ∃ acc, H4 Dl = some (.lst acc) ∧ acc.length < sizeLine ∧ N (upd H4 Dl (.lst (acc ++ [y])))
theorem h_lcT {vs : List Nat} {Dl : Addr} {N : Hp → Prop} {σ2 : L2.St} (e : wipe σ2 vs = wipe σ vs) (h : te σ2 H (App Dl N)) : LcT σ vs tYes te Dl N σ2 H := ⟨e, h⟩
theorem h_lcI {vs : List Nat} {Dl : Addr} {N : Hp → Prop} {σ2 : L2.St} (e : wipe σ2 vs = wipe σ vs) (h : tt σ2 H fun b H3 => if b = true then te σ2 H3 (App Dl N) else N H3) : LcT σ vs tt te Dl N σ2 H := ⟨e, h⟩
theorem h_app [Enc α] {l : List α} {b : α} {y : V} {N : Hp → Prop} (w : Ex B H) (m : Mu K B H p (l.map enc)) (r : Rep K B y (enc b)) (hz : l.length < sizeLine) (h : ∀ H', Stp [p] B H B H' → Mu K B H' p ((l ++ [b]).map enc) → N H') : App p N y H := h_app1 w m r hz h
theorem h_lcL [Enc α] {l : List α} {s0 : S} {f : α → S → Res (Option R' × S)} {k : List R' × S → Res β} {vs : List Nat} (hP : Post ((compR l s0 f).bind k) P R) (hs : SqL K H p xs) (hr : RepL K B xs (l.map enc))
    (J : Addr → List R' → S → Hp → Prop) (h0 : ∀ Dl, H Dl = none → J Dl [] s0 (upd H Dl (.lst []))) (hl : ∀ Dl acc s H', J Dl acc s H' → SqL K H' p xs)
    (hb : ∀ (Dl : Addr) (N : Hp → Prop) (T : Option R' × S → Prop) (x : α) v acc s H', J Dl acc s H' → Rep K B v (enc x) → acc.length < sizeLine → (∀ b s' H2, J Dl (acc ++ [b]) s' H2 → T (some b, s') → N H2) → (∀ s' H2, J Dl acc s' H2 → T (none, s') → N H2) → Post (f x s) T R →
      g v (wipe σ vs) H' (LcT σ vs tt te Dl N))
    (hd : ∀ Dl acc s H', J Dl acc s H' → Post (k (acc, s)) P R → Q (.ref Dl) H') : LcL K (.ref p) g tt te vs σ H Q := by
  refine ⟨p, rfl, ⟨xs, hs⟩, fun Dl hD => ?_⟩
  unfold compR at hP
  have hz : l.length ≤ 1000000 := by
    by_cases c : l.length ≤ 1000000
    · exact c
    · unfold guardR at hP; rw [if_neg c] at hP; exact hP.elim
  unfold guardR at hP
  rw [if_pos hz] at hP
  refine lc_list (K := K) (a := p) (xs := xs) (fun i H' => ∃ acc s, J Dl acc s H' ∧ acc.length ≤ i ∧ Post ((compL (l.drop i) s f).bind fun q => k (acc ++ q.1, q.2)) P R) ⟨[], s0, h0 Dl hD, Nat.le_refl _, hP⟩ (fun i H' _ ⟨acc, s, j, _⟩ => hl Dl acc s H' j) ?_ ?_
  · rintro i y H' hi ⟨acc, s, j, hn, q⟩
    have h1 := (List.getElem?_eq_some_iff.mp hi).1
    rw [hr.length, List.length_map] at h1
    obtain ⟨x, hx⟩ : ∃ x, l[i]? = some x := ⟨l[i], List.getElem?_eq_getElem h1⟩
    obtain ⟨u, hu, ru⟩ := hr.get (i := i) (d := enc x) (by rw [List.getElem?_map, hx]; rfl)
    rw [hi] at hu; cases hu
    exact hb Dl _ _ x y acc s H' j ru (Nat.lt_of_le_of_lt (Nat.le_trans hn (Nat.le_trans (Nat.le_of_lt h1) hz)) (by decide)) (fun b s' H2 j2 t2 => ⟨acc ++ [b], s', j2, by rw [List.length_append]; exact Nat.succ_le_succ hn, t2⟩) (fun s' H2 j2 t2 => ⟨acc, s', j2, Nat.le_succ_of_le hn, t2⟩) (q.compS hx)
  · rintro H' ⟨acc, s, j, _, q⟩
    rw [hr.length, List.length_map, List.drop_eq_nil_of_le (Nat.le_refl _)] at q
    have q2 : Post (k (acc ++ [], s)) P R := q
    rw [List.append_nil] at q2
    exact hd Dl acc s H' j q2
def LcR1 (ws : List V) (g : TG) (tt : TT) (te : TE) (vs : List Nat) (σ : L2.St) (H : Hp) (Q : VK) : Prop := tLc (iRng1 (fun _ H Q => Q ws H)) g tt te vs σ H Q
theorem h_lcR1E {vs : List Nat} {ta : TA} (h : ta σ H fun ws H1 => LcR1 ws g tt te vs σ H1 Q) : tLc (iRng1 ta) g tt te vs σ H Q := h
theorem h_lcR1 {hi : Int} {s0 : S} {f : Int → S → Res (Option R' × S)} {k : List R' × S → Res β} {vs : List Nat} (hP : Post ((compR (rngI 0 hi) s0 f).bind k) P R)
    (J : Addr → List R' → S → Hp → Prop) (h0 : ∀ Dl, H Dl = none → J Dl [] s0 (upd H Dl (.lst [])))
    (hb : ∀ (Dl : Addr) (N : Hp → Prop) (T : Option R' × S → Prop) (x : Int) acc s H', J Dl acc s H' → 0 ≤ x → x < hi → acc.length < sizeLine → (∀ b s' H2, J Dl (acc ++ [b]) s' H2 → T (some b, s') → N H2) → (∀ s' H2, J Dl acc s' H2 → T (none, s') → N H2) → Post (f x s) T R →
      g (.int x) (wipe σ vs) H' (LcT σ vs tt te Dl N))
    (hd : ∀ Dl acc s H', J Dl acc s H' → Post (k (acc, s)) P R → Q (.ref Dl) H') (hlo : -(2 ^ 62) ≤ hi) : LcR1 [.int hi] g tt te vs σ H Q := by
  unfold compR at hP
  have hz : (rngI 0 hi).length ≤ 1000000 := by
    by_cases c : (rngI 0 hi).length ≤ 1000000
    · exact c
    · unfold guardR at hP; rw [if_neg c] at hP; exact hP.elim
  unfold guardR at hP
  rw [if_pos hz] at hP
  rw [rngI_len, Int.sub_zero] at hz
  refine ⟨hi, rfl, hlo, by omega, fun Dl hD => ?_⟩
  refine lc_range (lo := 0) (n := hi.toNat) (fun i H' => ∃ acc s, J Dl acc s H' ∧ acc.length ≤ i ∧ Post ((compL ((rngI 0 hi).drop i) s f).bind fun q => k (acc ++ q.1, q.2)) P R) ⟨[], s0, h0 Dl hD, Nat.le_refl _, hP⟩ ?_ ?_
  · rintro i H' hi' ⟨acc, s, j, hn, q⟩
    have hx := rngI_get (lo := 0) (hi := hi) (i := i) (by omega)
    have e : (0 : Int) + (i : Int) = (i : Int) := Int.zero_add _
    exact hb Dl _ _ (0 + (i : Int)) acc s H' j (by omega) (by omega) (Nat.lt_of_le_of_lt (Nat.le_trans hn (Nat.le_trans (Nat.le_of_lt hi') hz)) (by decide)) (fun b s' H2 j2 t2 => ⟨acc ++ [b], s', j2, by rw [List.length_append]; exact Nat.succ_le_succ hn, t2⟩) (fun s' H2 j2 t2 => ⟨acc, s', j2, Nat.le_succ_of_le hn, t2⟩) (q.compS hx)
  · rintro H' ⟨acc, s, j, _, q⟩
    rw [List.drop_eq_nil_of_le (by rw [rngI_len]; omega)] at q
    have q2 : Post (k (acc ++ [], s)) P R := q
    rw [List.append_nil] at q2
    exact hd Dl acc s H' j q2
end

section
variable {K : PySem.W.Frag} {B B' H H' B0 H0 : Hp} {W : List Addr} {p : Addr} {xs : List V} {ds : List D} {v : V} {a b c d : L2.St → Hp → Prop} {rt : VK} {σ : L2.St}
theorem Rep.sqB (r : Rep K B v (.lst ds)) : ∃ p xs, v = .ref p ∧ SqL K B p xs ∧ RepL K B xs ds := by
  cases r with
  | @lst p xs _ hp r => exact ⟨p, xs, rfl, hp, r⟩
theorem Rep.stB (r : Rep K B v (.tup ds)) : ∃ p xs, v = .ref p ∧ SqT K B p xs ∧ RepL K B xs ds := by
  cases r with
  | @tup p xs _ hp r => exact ⟨p, xs, rfl, hp, r⟩
theorem Bor.sq0 (m : Bor K B0 H0 W v ds) : ∃ p xs, v = .ref p ∧ RepL K B0 xs ds ∧ ∀ B' H', Stp W B0 H0 B' H' → SqL K H' p xs := by
  obtain ⟨p, xs, e, hp, r⟩ := m
  refine ⟨p, xs, e, r, fun B' H' s => ?_⟩
  rcases hp with ⟨hp | ⟨o, hp⟩, hw⟩ | hp
  · exact .inl (.inl (s.fr p _ hw hp))
  · exact .inl (.inr ⟨o, s.fr p _ hw hp⟩)
  · exact .inr hp
theorem h_ct (h : d σ H) : tCont (Ends.mk a rt b d) σ H := h
theorem h_bk (h : b σ H) : tBreak (Ends.mk a rt b d) σ H := h
end

/-! ### lists that change -/
def setR {α : Type} (l : List α) (i : Int) (x : α) : Res (List α) := match ixN l.length i with | some j => .ok (l.set j x) | none => .stuck
def Bm (K : PySem.W.Frag) (T : String) (r : V → List V → Hp → VK → Prop) (t : TA) (σ : L2.St) (x : V) (H : Hp) (Q : VK) : Prop := tyV K T x H ∧ t σ H fun xs H2 => r x xs H2 Q
def Bm0 (K : PySem.W.Frag) (T : String) (r : V → List V → Hp → VK → Prop) (σ : L2.St) (x : V) (H : Hp) (Q : VK) : Prop := tyV K T x H ∧ r x [] H Q
section
variable {K : PySem.W.Frag} {σ : L2.St} {B H : Hp} {Q : VK} {p q : Addr} {v y : V} {te to ti : TE} {t : TA} {D' : Ends} {z : TS} {i : Int} {r : V → List V → Hp → VK → Prop}
theorem h_bm {T : String} (h : to σ H fun x H1 => Bm K T r t σ x H1 Q) : tBM K T r to t σ H Q := h
theorem h_bm0 {T : String} (h : to σ H fun x H1 => Bm0 K T r σ x H1 Q) : tBM0 K T r to σ H Q := h
theorem Mu.tyV {ds : List D} (m : Mu K B H p ds) : tyV K "list" (.ref p) H := by
  obtain ⟨hb, xs, hp, _⟩ := m
  exact .inl ⟨rfl, _, .inl (.inl hp)⟩
theorem h_bmL {ds : List D} (m : Mu K B H p ds) (h : t σ H fun xs H2 => r (.ref p) xs H2 Q) : Bm K "list" r t σ (.ref p) H Q := ⟨m.tyV, h⟩
theorem h_bmL0 {ds : List D} (m : Mu K B H p ds) (h : r (.ref p) [] H Q) : Bm0 K "list" r σ (.ref p) H Q := ⟨m.tyV, h⟩
theorem h_append {α : Type} [Enc α] {l : List α} {b : α} (w : Ex B H) (m : Mu K B H p (l.map enc)) (ry : Rep K B y (enc b)) (hz : l.length < 1000000) (h : ∀ H', Stp [p] B H B H' → Mu K B H' p ((l ++ [b]).map enc) → Q .non H') : rAppend (.ref p) [y] H Q := by
  obtain ⟨hb, xs, hp, hr⟩ := id m
  refine ⟨p, xs, y, rfl, rfl, hp, by rw [hr.length, List.length_map]; exact Nat.lt_of_lt_of_le hz (by decide), ?_⟩
  have rl : RepL K B (xs ++ [y]) ((l ++ [b]).map enc) := by
    rw [List.map_append]
    exact hr.append (.cons ry .nil)
  obtain ⟨s, m'⟩ := Stp.mut w m rl
  exact h _ s m'
theorem h_extend {α : Type} [Enc α] {l l2 : List α} (w : Ex B H) (m : Mu K B H p (l.map enc)) (m2 : Mu K B H q (l2.map enc)) (hz : l.length + l2.length ≤ 1000000) (h : ∀ H', Stp [p] B H B H' → Mu K B H' p ((l ++ l2).map enc) → Q .non H') : rExtend (.ref p) [.ref q] H Q := by
  obtain ⟨hb, xs, hp, hr⟩ := id m
  obtain ⟨hb2, ys, hp2, hr2⟩ := id m2
  refine ⟨p, q, xs, ys, rfl, rfl, hp, hp2, by rw [hr.length, hr2.length, List.length_map, List.length_map]; exact Nat.le_trans hz (by decide), ?_⟩
  have rl : RepL K B (xs ++ ys) ((l ++ l2).map enc) := by
    rw [List.map_append]
    exact hr.append hr2
  obtain ⟨s, m'⟩ := Stp.mut w m rl
  exact h _ s m'
theorem RepL.set : ∀ {vs : List V} {ds : List D} {j : Nat} {d : D}, RepL K B vs ds → Rep K B v d → RepL K B (vs.set j v) (ds.set j d)
  | _, _, _, _, .nil, _ => .nil
  | _, _, 0, _, .cons _ t, r => .cons r t
  | _, _, j + 1, _, .cons h t, r => .cons h (RepL.set t r)
theorem Post.set {α β : Type} {l : List α} {x : α} {k : List α → Res β} {P : β → Prop} {R : Err → Prop} (h : Post ((setR l i x).bind k) P R) : ∃ j, ixN l.length i = some j ∧ Post (k (l.set j x)) P R := by
  unfold setR at h
  cases e : ixN l.length i with
  | none => rw [e] at h; exact h.elim
  | some j => rw [e] at h; exact ⟨j, rfl, h⟩
def SubS (K : PySem.W.Frag) (to ti : TE) (σ : L2.St) (v : V) (H : Hp) (N : L2.St → Hp → Prop) : Prop := gSub to ti rSetL v σ H N
theorem h_sub {N : L2.St → Hp → Prop} (h : to σ H fun o H1 => ti σ H1 fun i H2 => rSetL o i v H2 fun H3 => N σ H3) : gSub to ti rSetL v σ H N := h
theorem h_asg {g : TG} (h : te σ H fun x H1 => g x σ H1 D'.nx) : tAsg te g D' σ H := h
theorem h_setL {α : Type} [Enc α] {l : List α} {b : α} {N : Hp → Prop} {j : Nat} (w : Ex B H) (m : Mu K B H p (l.map enc)) (ry : Rep K B v (enc b)) (hj : ixN l.length i = some j) (h : ∀ H', Stp [p] B H B H' → Mu K B H' p ((l.set j b).map enc) → N H') : rSetL (.ref p) (.int i) v H N := by
  obtain ⟨hb, xs, hp, hr⟩ := id m
  refine ⟨p, xs, i, j, rfl, rfl, hp, by rw [hr.length, List.length_map]; exact hj, ?_⟩
  have rl : RepL K B (xs.set j v) ((l.set j b).map enc) := by
    rw [List.map_set]
    exact hr.set ry
  obtain ⟨s, m'⟩ := Stp.mut w m rl
  exact h _ s m'
end

/-- a value with a name -/
def lt {α β : Type} (d : α) (k : α → Res β) : Res β := k d
theorem Post.lt {α β : Type} {d : α} {k : α → Res β} {P : β → Prop} {R : Err → Prop} (h : Post (Y.lt d k) P R) : Post (k d) P R := h

/-! ### lists put together, cut, compared; keywords alone -/
def rCatQ (K : PySem.W.Frag) : R2 := fun x y H Q => ∃ a b xs ys, x = .ref a ∧ y = .ref b ∧ SqL K H a xs ∧ SqL K H b ys ∧ xs.length + ys.length ≤ sizeLine ∧ NwL (xs ++ ys) H Q
theorem op_catQ {X : Cx} : OpR X (binaryOp .Add) (rCatQ X.K) := by
  intro pins s σ H x y v u Q I rx ry h
  obtain ⟨a, b, xs, ys, rfl, rfl, ha, hb, hz, q⟩ := h
  cases rx
  cases ry
  obtain ⟨its, r, p1, z1⟩ := I.list ha
  obtain ⟨its2, r2, p2, z2⟩ := I.list hb
  have hl1 := r.length
  have hl2 := r2.length
  obtain ⟨⟨cls, dd, data, sl⟩, ho, hc, n, hd⟩ := p1.isList
  obtain ⟨⟨cls2, dd2, data2, sl2⟩, ho2, hc2, n2, hd2⟩ := p2.isList
  simp only at hc hd hc2 hd2
  subst hc hd hc2 hd2
  have e : its.toArray ++ its2.toArray = (its ++ its2).toArray := by simp
  refine concat_meets ⟨_, ho, rfl⟩ ⟨_, ho2, rfl⟩ noFill_list_add seq_list_add PySem.F.slot_list_add PySem.F.entry_list_add (PySem.F.args_list_add_2 _ _) (list_addW a b its.toArray its2.toArray n n2 dd dd2 sl sl2 (by rw [List.size_toArray, List.size_toArray]; omega)) ⟨ho, ho2, ?_⟩
  rw [e]
  exact ⟨.ref _, _, I.lnew (t' := s.toks) (r.append r2) (by rw [List.length_append]; omega), rfl, q _ I.fresh⟩
def rSlQ (K : PySem.W.Frag) : V → Option Int → Option Int → Hp → VK → Prop := fun x lo hi H Q => ∃ a xs, x = .ref a ∧ SqL K H a xs ∧ NwL (cutV xs lo hi) H Q
theorem sl_Q {X : Cx} : SlR X (rSlQ X.K) := sl_list
/-- l[lo:hi] -/
def cutL {α : Type} (l : List α) (lo hi : Option Int) : List α := (l.drop (HT.sIx l.length 0 lo)).take (HT.sIx l.length l.length hi - HT.sIx l.length 0 lo)
mutual
/-- as the library's data -/
def pyD : D → PyData
  | .non => .none | .bl b => .bool b | .int i => .int i | .str x => .str x | .lst ds => .list (pyDs ds) | .tup ds => .tuple (pyDs ds) | .dic _ => .dict []
def pyDs : List D → List PyData
  | [] => []
  | d :: ds => pyD d :: pyDs ds
end
mutual
/-- no dict within -/
def flatD : D → Bool
  | .lst ds => flatDs ds | .tup ds => flatDs ds | .dic _ => false | _ => true
def flatDs : List D → Bool
  | [] => true
  | d :: ds => flatD d && flatDs ds
end
/-- == of data -/
def eqD (a b : D) : Bool := PyData.eqv (pyD a) (pyD b)
section
variable {K : PySem.W.Frag} {B B' H H' : Hp}
mutual
theorem Rep.dp (w : Ex B H) : ∀ {v : V} {d : D}, Rep K B v d → flatD d = true → Dp K H v (pyD d)
  | _, _, .non, _ => .non
  | _, _, .bl b, _ => .bl b
  | _, _, .int i, _ => .int i
  | _, _, .str x, _ => .str x
  | _, _, .lst h r, f => .lst (w.l h) (RepL.dp w r f)
  | _, _, .tup h r, f => .tup (w.t h) (RepL.dp w r f)
  | _, _, .dic h r, f => nomatch f
theorem RepL.dp (w : Ex B H) : ∀ {vs : List V} {ds : List D}, RepL K B vs ds → flatDs ds = true → DpAll K H vs (pyDs ds)
  | _, _, .nil, _ => .nil
  | _, _, .cons h t, f => by
    have f' : (flatD _ && flatDs _) = true := f
    rw [Bool.and_eq_true] at f'
    exact .cons (Rep.dp w h f'.1) (RepL.dp w t f'.2)
end
variable {σ : L2.St} {Q : VK} {x y v : V} {d e : D} {p q : Addr} {xs ys : List V} {i j k : Int} {tc te ta tb : TE} {lo hi : Option Int} {to tu : TO}
/-- what may be compared by == here -/
def okEq (d e : D) : Prop := flatD d = true ∧ flatD e = true ∧ SeqAt.shaped (pyD d) = true ∧ SeqAt.shaped (pyD e) = true
instance (d e : D) : Decidable (okEq d e) := by unfold okEq; infer_instance
theorem h_eqD (w : Ex B H) (rx : Rep K B x d) (ry : Rep K B y e) (o : okEq d e) (h : Q (.bl (eqD d e)) H) : rEqD K x y H Q := ⟨_, _, rx.dp w o.1, ry.dp w o.2.1, o.2.2.1, o.2.2.2, h⟩
theorem h_neD (w : Ex B H) (rx : Rep K B x d) (ry : Rep K B y e) (o : okEq d e) (h : Q (.bl (!eqD d e)) H) : rNeD K x y H Q := ⟨_, _, rx.dp w o.1, ry.dp w o.2.1, o.2.2.1, o.2.2.2, h⟩
theorem h_cat (s1 : SqL K H p xs) (s2 : SqL K H q ys) (hz : xs.length + ys.length ≤ sizeLine) (h : NwL (xs ++ ys) H Q) : rCatQ K (.ref p) (.ref q) H Q := ⟨p, q, xs, ys, rfl, rfl, s1, s2, hz, h⟩
theorem RepL.cat {α : Type} [Enc α] {l l2 : List α} (r : RepL K B xs (l.map enc)) (r2 : RepL K B ys (l2.map enc)) : RepL K B (xs ++ ys) ((l ++ l2).map enc) := by
  rw [List.map_append]; exact r.append r2
theorem RepL.take : ∀ {vs : List V} {ds : List D} (n : Nat), RepL K B vs ds → RepL K B (vs.take n) (ds.take n)
  | _, _, 0, _ => .nil
  | _, _, _ + 1, .nil => .nil
  | _, _, n + 1, .cons r t => .cons r (RepL.take n t)
theorem RepL.drop : ∀ {vs : List V} {ds : List D} (n : Nat), RepL K B vs ds → RepL K B (vs.drop n) (ds.drop n)
  | _, _, 0, r => r
  | _, _, _ + 1, .nil => .nil
  | _, _, n + 1, .cons _ t => RepL.drop n t
theorem RepL.cut {α : Type} [Enc α] {l : List α} (r : RepL K B xs (l.map enc)) (lo hi : Option Int) : RepL K B (cutV xs lo hi) ((cutL l lo hi).map enc) := by
  unfold cutV cutL
  rw [List.map_take, List.map_drop, r.length, List.length_map]
  exact (r.drop _).take _
theorem h_sl {r : V → Option Int → Option Int → Hp → VK → Prop} (h : te σ H fun x H1 => to σ H1 fun l H2 => tu σ H2 fun u H3 => r x l u H3 Q) : tSl r te to tu σ H Q := h
theorem h_part {N : Option Int → Hp → Prop} (h : te σ H fun x H1 => ∃ i, x = .int i ∧ N (some i) H1) : tPart te σ H N := h
theorem h_isI {f : Int → Prop} (h : f i) : ∃ j, V.int i = .int j ∧ f j := ⟨i, rfl, h⟩
theorem h_nopart {N : Option Int → Hp → Prop} (h : N none H) : tNoPart σ H N := h
theorem h_slQ (s : SqL K H p xs) (h : NwL (cutV xs lo hi) H Q) : rSlQ K (.ref p) lo hi H Q := ⟨p, xs, rfl, s, h⟩
theorem h_ch {g g' : Int → Int → Bool} (hc : ∀ Q : VK, Q (.int k) H → tc σ H Q) (h : Q (.bl (g i j && g' j k)) H) :
    rI0 (fun i j => .bl (g i j)) (.int i) (.int j) H (fun z H3 => ∃ c, z = .bl c ∧ (if c = true then tc σ H3 fun w' H4 => rI0 (fun i j => .bl (g' i j)) (.int j) w' H4 Q else Q (.bl false) H3)) := by
  refine ⟨i, j, rfl, rfl, g i j, rfl, ?_⟩
  cases e : g i j with
  | true =>
    refine h_iteT (hc _ ?_)
    rw [e, Bool.true_and] at h
    exact ⟨j, k, rfl, rfl, h⟩
  | false =>
    rw [e, Bool.false_and] at h
    exact h_iteF h
end
/-- f(k = v, ..) -/
def tCallK0 (sp : Sp) (gV : List V → List V) (E : XK) (tk : TA) : TE := fun σ H Q => tk σ H fun zs H2 => sp (gV zs) H2 Q E
theorem pe_callK0 {X : Cx} {CX : CXT} {k : Nat} {f : Addr} {fd : FuncData} {ps ks : List Str} {sp : Sp} {E : XK} {x : Str} {p pos : Pos} {kws : List Keyword} {tk : TA} {g : List Value → List Value → List Value} {gV : List V → List V → List V}
    (F : FnOk X.prog X.w X.K X.mg X.base CX k f fd ps sp) (hr : Room k X.A) (hg : Gl X x) (hm : X.mg x = some (.ref f)) (hk : PySem.W.keepIn X.K (.ref f) = true) (hb : KBinds X.K fd ps ks g gV) (hx : Passes CX X E)
    (hkw : PK X kws tk) (hall : (backToKw pos (keywordEach kws X.env)).all (·.1.isSome) = true := by rfl) (hks : (backToKw pos (keywordEach kws X.env)).filterMap (·.1) = ks := by rfl)
    (hdb : (x == ("__debug__" : Str)) = false := by decide)
    (hpl : ((backTo pos (starEach [] X.env)).any (·.1) || (backToKw pos (keywordEach kws X.env)).any (·.1.isNone)) = false := by rfl) :
    PE X (.Call (.Name x p) [] kws pos) (tCallK0 sp (gV []) E tk) := by
  refine ⟨fun pins s σ H Q I h => ?_⟩
  refine wpAny_Call_Name_kw (ld_glob I hg hm ?_ hdb)
  refine PySem.W.callWith_KW0 (h₀ := X.base) I.ok.mod.kin hk hall ?_ hpl
  refine thn (hkw.run pos pins s σ H _ I h) fun ws s2 ⟨zs, H2, I2, rz, q2⟩ => ⟨I2.kIn, ?_⟩
  rw [hks]
  exact run_fnk F hr hb hx I2 .nil rz q2
theorem h_callK0 {σ : L2.St} {H : Hp} {Q : VK} {sp : Sp} {gV : List V → List V} {E : XK} {tk : TA} (h : tk σ H fun zs H2 => sp (gV zs) H2 Q E) : tCallK0 sp gV E tk σ H Q := h
theorem h_callK {σ : L2.St} {H : Hp} {Q : VK} {sp : Sp} {gV : List V → List V → List V} {E : XK} {t tk : TA} (h : t σ H fun vs H1 => tk σ H1 fun zs H2 => sp (gV vs zs) H2 Q E) : tCallK sp gV E t tk σ H Q := h
theorem hu64_of {A : Around} {k : Nat} (hr : Room k A) : A.units + 64 < cLine := Nat.lt_of_le_of_lt (Nat.add_le_add_left (by decide : 64 ≤ 64) _) hr.units

/-! ### dicts as data -/
section
variable {K : PySem.W.Frag} {B H : Hp} {σ : L2.St} {Q : VK} {tk tv : TE} {v : V} {d : D} {i : Int} {p : Addr} {xs : List V}
theorem h_disp1I (hk : ∀ (H' : Hp) (Q : VK), Q (.int i) H' → tk σ H' Q) (hv : ∀ (H' : Hp) (Q : VK), Q v H' → tv σ H' Q) (w : Ex B H) (rv : Rep K B v d)
    (h : ∀ p B' H', Stp [] B H B' H' → Rep K B' (.ref p) (.dic [(.inl i, d)]) → Q (.ref p) H') : tDisp [(tk, tv)] σ H Q := fun p hp => by
  show tk σ (upd H p (.dK [])) _
  refine hk _ _ (hv _ _ ⟨upd_same, [(.inl i, v)], rfl, (by show 1 ≤ 15; decide), ?_⟩)
  rw [upd_upd]
  have hb := w.none hp
  exact h p _ _ (Stp.new w hp) (.dic upd_same (.cons (rv.mono (Ex.new hb)) .nil))
theorem h_dnew (w : Ex B H) (h : ∀ p B' H', Stp [] B H B' H' → Rep K B' (.ref p) (.dic []) → Q (.ref p) H') : tDNewK σ H Q := fun p hp => h p _ _ (Stp.new w hp) (.dic upd_same .nil)
def rDictP (K : PySem.W.Frag) : List V → Hp → VK → Prop := fun xs H Q => ∃ (a : Addr) (ps : List Addr) (kvs : List (Key × V)), xs = [.ref a] ∧ SqL K H a (ps.map V.ref) ∧ Paired (fun p kv => SqT K H p [kV kv.1, kv.2]) ps kvs ∧
    ∀ p, H p = none → Q (.ref p) (upd H p (.dK (mergeK [] kvs)))
theorem cr_dict {X : Cx} (hc : X.calm = true) : CallR X (.type "dict") (rDictP X.K) := call_dictP hc
def vD : V → D
  | .int i => .int i | .bl b => .bl b | .str x => .str x | _ => .non
/-- dict(pairs of ints), as data -/
def dictI (l : List (Tp2 Int Int)) : List (Key × D) := (mergeK [] (l.map fun t => ((Sum.inl t.a : Key), V.int t.b))).map fun kv => (kv.1, vD kv.2)
theorem putK_ints {kvs : List (Key × V)} {k : Key} {j : Int} (h : ∀ kv ∈ kvs, ∃ i, kv.2 = V.int i) : ∀ kv ∈ putK kvs k (V.int j), ∃ i, kv.2 = V.int i := by
  intro kv m
  unfold putK at m
  split at m
  · obtain ⟨q, hq, e⟩ := List.mem_map.mp m
    rw [← e]
    split
    · exact ⟨j, rfl⟩
    · exact h q hq
  · rcases List.mem_append.mp m with m | m
    · exact h kv m
    · rw [List.mem_singleton.mp m]; exact ⟨j, rfl⟩
theorem merge_ints : ∀ {l : List (Tp2 Int Int)} {acc : List (Key × V)}, (∀ kv ∈ acc, ∃ i, kv.2 = V.int i) → ∀ kv ∈ mergeK acc (l.map fun t => ((Sum.inl t.a : Key), V.int t.b)), ∃ i, kv.2 = V.int i
  | [], _, h => h
  | t :: r, acc, h => merge_ints (l := r) (putK_ints h)
theorem RepK.ints : ∀ {kvs : List (Key × V)}, (∀ kv ∈ kvs, ∃ i, kv.2 = V.int i) → RepK K B kvs (kvs.map fun kv => (kv.1, vD kv.2))
  | [], _ => .nil
  | (k, v) :: r, h => by
    obtain ⟨i, e⟩ := h (k, v) List.mem_cons_self
    have e' : v = V.int i := e
    subst e'
    exact .cons (.int i) (RepK.ints fun kv m => h kv (List.mem_cons_of_mem _ m))
theorem pairs_D (w : Ex B H) : ∀ {xs : List V} {l : List (Tp2 Int Int)}, RepL K B xs (l.map enc) → ∃ ps : List Addr, xs = ps.map V.ref ∧ Paired (fun p (kv : Key × V) => SqT K H p [kV kv.1, kv.2]) ps (l.map fun t => ((Sum.inl t.a : Key), V.int t.b))
  | [], [], _ => ⟨[], rfl, .nil⟩
  | _ :: _, [], r => nomatch r
  | [], _ :: _, r => nomatch r
  | v :: vs, t :: l, r => by
    cases r with
    | cons h q =>
      obtain ⟨ps, e, pr⟩ := pairs_D w q
      obtain ⟨p, ys, rfl, hs, hr⟩ := Rep.st w (show Rep K B v (.tup [enc t.a, enc t.b]) from h)
      cases hr with
      | cons h1 t1 =>
        cases t1 with
        | cons h2 t2 =>
          cases t2
          cases h1
          cases h2
          exact ⟨p :: ps, by rw [e]; rfl, .cons hs pr⟩
theorem h_dictP {l : List (Tp2 Int Int)} (w : Ex B H) (s : SqL K H p xs) (r : RepL K B xs (l.map enc)) (h : ∀ p B' H', Stp [] B H B' H' → Rep K B' (.ref p) (.dic (dictI l)) → Q (.ref p) H') : rDictP K [.ref p] H Q := by
  obtain ⟨ps, e, pr⟩ := pairs_D w r
  subst e
  exact ⟨p, ps, _, rfl, s, pr, fun q hq => h q _ _ (Stp.new w hq) (.dic upd_same (RepK.ints (merge_ints fun _ m => nomatch m)))⟩
end
theorem RepL.toD {K : PySem.W.Frag} {B : Hp} {α : Type} [Enc α] {xs : List V} {l : List α} (r : RepL K B xs (l.map enc)) : RepL K B xs ((l.map enc : List D).map enc) := by
  have e : (l.map enc : List D).map enc = l.map enc := List.map_id' _
  rw [e]; exact r
/-- a thing that is an int -/
def asI (d : D) : Res Int := match d with | .int i => .ok i | _ => .stuck
theorem Post.asI {β : Type} {d : D} {k : Int → Res β} {P : β → Prop} {R : Err → Prop} (h : Post ((Y.asI d).bind k) P R) : ∃ i, d = .int i ∧ Post (k i) P R := by
  cases d with
  | int i => exact ⟨i, rfl, h⟩
  | _ => exact h.elim
/-- a pair taken apart -/
def un2 {α β γ : Type} (k : α → β → γ) (p : α × β) : γ := k p.1 p.2
theorem Post.un2 {α β γ : Type} {k : α → β → Res γ} {a : α} {b : β} {P : γ → Prop} {R : Err → Prop} (h : Post (Y.un2 k (a, b)) P R) : Post (k a b) P R := h
/-- a thing that is a list | a tuple -/
def asL (d : D) : Res (List D) := match d with | .lst l => .ok l | _ => .stuck
def asT (d : D) : Res (List D) := match d with | .tup l => .ok l | _ => .stuck
theorem enc_Ds (l : List D) : (l.map enc : List D) = l := List.map_id' _
theorem Post.asL {β : Type} {d : D} {k : List D → Res β} {P : β → Prop} {R : Err → Prop} (h : Post ((Y.asL d).bind k) P R) : ∃ l : List D, d = .lst (l.map enc) ∧ Post (k l) P R := by
  cases d with
  | lst l => exact ⟨l, by rw [enc_Ds], h⟩
  | _ => exact h.elim
theorem Post.asT {β : Type} {d : D} {k : List D → Res β} {P : β → Prop} {R : Err → Prop} (h : Post ((Y.asT d).bind k) P R) : ∃ l : List D, d = .tup (l.map enc) ∧ Post (k l) P R := by
  cases d with
  | tup l => exact ⟨l, by rw [enc_Ds], h⟩
  | _ => exact h.elim
section
variable {K : PySem.W.Frag} {B H : Hp} {Q : VK} {p : Addr} {xs : List V}
theorem RepL.bools : ∀ {xs : List V} {bs : List Bool}, RepL K B xs (bs.map enc) → xs = bs.map V.bl
  | [], [], _ => rfl
  | _ :: _, [], r => nomatch r
  | [], _ :: _, r => nomatch r
  | v :: vs, b :: bs, r => by
    cases r with
    | cons h t =>
      cases h
      rw [RepL.bools t]
      rfl
theorem RepL.intsV : ∀ {xs : List V} {bs : List Int}, RepL K B xs (bs.map enc) → xs = bs.map V.int
  | [], [], _ => rfl
  | _ :: _, [], r => nomatch r
  | [], _ :: _, r => nomatch r
  | v :: vs, b :: bs, r => by
    cases r with
    | cons h t =>
      cases h
      rw [RepL.intsV t]
      rfl
theorem h_all {bs : List Bool} (s : SqL K H p xs) (r : RepL K B xs (bs.map enc)) (h : Q (.bl (bs.all id)) H) : rAll K [.ref p] H Q := ⟨p, bs, rfl, by rw [← r.bools]; exact s, h⟩
theorem h_any {bs : List Bool} (s : SqL K H p xs) (r : RepL K B xs (bs.map enc)) (h : Q (.bl (bs.any id)) H) : rAny K [.ref p] H Q := ⟨p, bs, rfl, by rw [← r.bools]; exact s, h⟩
theorem h_sum {ns : List Int} (s : SqL K H p xs) (r : RepL K B xs (ns.map enc)) (h : Q (.int ns.sum) H) : rSum K [.ref p] H Q := ⟨p, ns, rfl, by rw [← r.intsV]; exact s, h⟩
end
/-! ### the top -/
/-- the law's promise -/
def spTop (K : PySem.W.Frag) : Sp := fun vs H Q _ => ∃ (a : Addr) (ns : List Int), vs = [.ref a] ∧ ns.length ≤ 63 ∧ SqL K H a (ns.map V.int) ∧ ∀ H', Q (.bl true) H'
theorem top_of {K : PySem.W.Frag} {m : List Int → Res Bool} (hm : ∀ ns : List Int, ns.length ≤ 63 → m ns = .ok true) {vs : List V} {H : Hp} {Q : VK} {E : XK} (h : spTop K vs H Q E) :
    ∃ (B : Hp) (v : V) (a : List Int), Ex B H ∧ vs = [v] ∧ Bor K B H [] v (a.map enc) ∧ Post (m a) (fun r => Ret K [] B H (enc r) Q) (fun _ => False) := by
  obtain ⟨a, ns, e, hl, hs, k⟩ := h
  refine ⟨H, .ref a, ns, Ex.refl H, e, ⟨a, _, rfl, ?_, RepL.ints ns⟩, ?_⟩
  · rcases hs with hs | hs
    · exact .inl ⟨hs, fun z => nomatch z⟩
    · exact .inr hs
  · rw [hm ns hl]
    refine ⟨fun v B' H' st r => ?_⟩
    cases r
    exact k H'
theorem walk_top {l : PySem.W.OpenLaw} {q : Program} {loose : List Str} {XP : (Str → Option Value) → Heap → Prop} {YP : World → Heap → Prop} {d : DefRec} {K : Params → PySem.W.Frag} {x : Str} {k : Nat} (hn : l.most = some 63) (hdf : d.params.defaults = [])
    (hr : Room k callerA) (hY : ∀ (w : World) (h : Heap), YP w h → (K w.params).In h)
    (F : ∀ (w : World) (mg : Str → Option Value) (fa : Addr) (h : Heap), (K w.params).In h → h.Ns mainGlobals mg → mg d.name = some (.ref fa) →
      ∃ fd : FuncData, (∀ (s : Shared) (u : Value), BindsTo s fd ⟨[u], []⟩ [(x, u)]) ∧ ∀ base : Heap, (K w.params).In base → base.Ns mainGlobals mg → FnOk l.prog w (K w.params) mg base CX0 k fa fd [x] (spTop (K w.params))) :
    PySem.W.WalkO q loose XP YP l.row.toRowW d [] (fun f vs => PySem.call f vs) :=
  L2.walk_of (n := 63) (k := k) (x := x) (CX := fun _ => CX0) (sp := fun w => spTop (K w.params)) hn (by decide) hdf hr hY F (fun _ _ a ns hl _ hS => ⟨a, ns, rfl, hl, hS, fun _ => rfl⟩) fun _ _ _ _ _ z => z
/-- how its arguments bind by keywords -/
theorem _root_.L2.Fun.kb {K : PySem.W.Frag} {x qual : Str} {st : Stmt} {f : Addr} {fd : FuncData} {ps ks : List Str} {g : List Value → List Value → List Value} {gV : List V → List V → List V} (F : Fun K x qual st f fd)
    (h : ∀ (kV doc pm : Value) (an : Option Addr) (cdv ct : Value) (us ws : List Value), (g us ws).length = ps.length → bindArgs (PySem.W.fnOf x qual (defArgs st) (defBody st) (defScope st) .none kV doc pm an cdv ct) ⟨us, ks.zip ws⟩ = pure (ps.zip (g us ws)))
    (r : ∀ {vs : List V} {us : List Value} {zs : List V} {ws : List Value}, Vals vs us → Vals zs ws → Vals (gV vs zs) (g us ws)) : KBinds K fd ps ks g gV := by
  obtain ⟨oc, od, kV, doc, pm, an, cdv, ct, osl, rfl, lk, hcd⟩ := F.ex
  exact ⟨fun s us ws _ hl => .of_eq (h kV doc pm an cdv ct us ws hl), r⟩

/-! ### while -/
def whileR {S R : Type} : Nat → S → (S → Res (Fl S R)) → Res (Fl S R)
  | 0, _, _ => .stuck
  | n + 1, s, g => (g s).bind fun r => match r with | .nx s' => whileR n s' g | r => .ok r
section
variable {K : PySem.W.Frag} {σ : L2.St} {H : Hp} {Q : VK} {tb t : TS} {c : TT} {D' : Ends} {S β : Type} {P : β → Prop} {E : Err → Prop}
theorem h_while {n : Nat} {s0 : S} {f : S → Res (Fl S β)} {k : S → Res β} (hP : Post ((whileR n s0 f).bind (afterR k)) P E) (J : S → L2.St → Hp → Prop) (h0 : J s0 σ H)
    (hb : ∀ (N : L2.St → Hp → Prop) (C : (L2.St → Hp → Prop) → Prop) (T : Fl S β → Prop) s σ' H', J s σ' H' → C N → (∀ s' σ2 H2, J s' σ2 H2 → T (.nx s') → N σ2 H2) → (∀ r, T (.rt r) → P r) → (∀ s' σ2 H2, J s' σ2 H2 → T (.bk s') → D'.nx σ2 H2) → Post (f s) T E →
      c σ' H' fun b H1 => if b = true then ∃ N, C N ∧ tb { D' with nx := N, ct := N, bk := D'.nx } σ' H1 else D'.nx σ' H1)
    (hd : ∀ s σ' H', J s σ' H' → Post (k s) P E → D'.nx σ' H') : tWhile c tb D' σ H := by
  refine ⟨fun m σ' H' => ∃ s, J s σ' H' ∧ Post (whileR m s f) (fun a => Post (afterR k a) P E) E, ⟨n, s0, h0, hP.bind⟩, ?_⟩
  rintro m σ' H' ⟨s, j, q⟩
  cases m with
  | zero => exact Post.elim q
  | succ m =>
    refine hb (fun σ2 H2 => ∃ s', J s' σ2 H2 ∧ Post (whileR m s' f) (fun a => Post (afterR k a) P E) E) (fun N => ∀ σ2 H2, N σ2 H2 → ∃ m', m' < m + 1 ∧ ∃ s, J s σ2 H2 ∧ Post (whileR m' s f) (fun a => Post (afterR k a) P E) E)
      (fun r => match r with | .nx s' => Post (whileR m s' f) (fun a => Post (afterR k a) P E) E | .rt r => Post (.ok r) P E | .bk s' => Post (k s') P E) s σ' H' j (fun σ2 H2 h => ⟨m, Nat.lt_succ_self m, h⟩)
      (fun s' σ2 H2 j2 t2 => ⟨s', j2, t2⟩) (fun r t2 => Post.ok t2) (fun s' σ2 H2 j2 t2 => hd s' σ2 H2 j2 t2) ?_
    refine (Post.bind q).mono (fun r q => ?_) fun _ q => q
    cases r with
    | nx s' => exact q
    | rt r => exact q.ok
    | bk s' => exact q.ok
theorem h_par {i j : Nat} {ta : TA} (h : ta σ H fun vs H1 => ∃ v w, vs = [v, w] ∧ D'.nx ((σ.set i (some v)).set j (some w)) H1) : tPar i j ta D' σ H := h
theorem h_two {N : V → V → Prop} {x y : V} (h : N x y) : ∃ v w, [x, y] = [v, w] ∧ N v w := ⟨x, y, rfl, h⟩

/-! ### errors -/
def tryR {α : Type} (m : Res α) (h : Err → Res α) : Res α := match m with | .ok a => .ok a | .err e => h e | .stuck => .stuck
theorem Post.tr {α : Type} {m : Res α} {h : Err → Res α} {P : α → Prop} {R : Err → Prop} (q : Post (tryR m h) P R) : Post m P (fun e => Post (h e) P R) := by
  obtain ⟨q⟩ := q
  refine ⟨?_⟩
  cases m
  · exact q
  · exact ⟨q⟩
  · exact q
theorem h_tryJ {m : Res (Fl S β)} {h : Err → Res (Fl S β)} {k : S → Res β} (hP : Post ((tryR m h).bind (afterR k)) P E) (J : S → L2.St → Hp → Prop)
    (h1 : ∀ (N : L2.St → Hp → Prop) (T : Fl S β → Prop), (∀ s σ' H', J s σ' H' → T (.nx s) → N σ' H') → (∀ r, T (.rt r) → P r) → Post m T (fun e => Post (h e) T E) → t { D' with nx := N } σ H)
    (h2 : ∀ s σ' H', J s σ' H' → Post (k s) P E → D'.nx σ' H') : t D' σ H := by
  refine h1 _ (fun a => Post (afterR k a) P E) (fun s σ' H' j q => h2 s σ' H' j q) (fun r q => (q : Post (.ok r) P E).ok) ?_
  exact (Post.bind hP).tr
/-- what the written part says of an error's class -/
structure ExcT (K : PySem.W.Frag) (mg : Str → Option Value) (nm : Str) (C : Addr) : Prop where
  g : mg nm = some (.ref C)
  ec : ExcC K C
  ty : PySem.W.typeIn K (.ref C) = some (.type "type")
  kp : PySem.W.keepIn K (.ref C) = true
  ve : PySem.W.subIn K (.ref C) (.type "ValueError") = some true
  is : PySem.W.isClsIn K C = true
  self : PySem.W.subIn K (.ref C) (.ref C) = some true
/-- an error that is raised with a text alone -/
structure ExcR (K : PySem.W.Frag) (mg : Str → Option Value) (nm : Str) (C : Addr) : Prop extends ExcT K mg nm C where
  ex : PySem.W.excIn K C [.type "ValueError", .type "Exception", .type "BaseException", .type "object"] "ValueError.__new__" = true
theorem ExcT.names {X : Cx} {nm : Str} {C : Addr} (T : ExcT X.K X.mg nm C) (hg : Gl X nm) (hd : (nm == ("__debug__" : Str)) = false) : Names X nm (.ref C) := ⟨hg, hd, .inl T.g⟩
theorem ExcT.exm {mg : Str → Option Value} {nm : Str} {C : Addr} (T : ExcT K mg nm C) {cls : Value} {b : Bool} (h : PySem.W.subIn K cls (.ref C) = some b) : PySem.W.exmOne K cls (.ref C) = some b := PySem.W.exm_ref T.ec.hs T.ec.hd T.ty h
theorem ExcT.kit {mg : Str → Option Value} {nm : Str} {C C2 : Addr} (T : ExcT K mg nm C) {b : Bool} (h : PySem.W.subIn K (.ref C2) (.ref C) = some b) : PySem.W.kitOne K (.ref C2) (.ref C) = some b := by
  unfold PySem.W.kitOne
  by_cases e : (Value.ref C2 == Value.ref C) = true
  · rw [if_pos e]
    have e2 : C2 = C := Value.ref.inj (beq_iff_eq.mp e)
    subst e2
    exact T.self.symm.trans h
  · rw [if_neg e]
    have h2 : (PySem.W.clsIn K C).isSome = true := T.is
    show (if ((PySem.W.clsIn K C).isSome && PySem.W.typeIn K (.ref C) == some (.type "type")) = true then PySem.W.subIn K (.ref C2) (.ref C) else none) = some b
    rw [if_pos (by rw [h2, T.ty] <;> rfl)]
    exact h
theorem ExcT.kitVE {mg : Str → Option Value} {nm : Str} {C : Addr} (T : ExcT K mg nm C) : PySem.W.kitOne K (.ref C) (.type "ValueError") = some true := by
  unfold PySem.W.kitOne
  rw [if_neg (by simp)]
  show (if PySem.W.kitMeta "ValueError" = true then PySem.W.subIn K (.ref C) (.type "ValueError") else none) = some true
  rw [if_pos (by decide +kernel)]
  exact T.ve
def tIsE (K : PySem.W.Frag) (a : Addr) (cls : Value) (d : Option Addr) (targs : TA) : TE := fun σ H Q => ∃ Dc, cls = .ref Dc ∧ d = none ∧ ExcC K Dc ∧ tCB (rIsE K Dc a) targs σ H Q
theorem pe_isE {X : Cx} {e : Expr} {a : Addr} {cls : Value} {d : Option Addr} {targs : TA} (hK : X.K = K) (h : ∀ Dc, cls = .ref Dc → d = none → ExcC K Dc → PE X e (tCB (rIsE K Dc a) targs)) : PE X e (tIsE K a cls d targs) :=
  ⟨fun pins s σ H Q I q => by
    obtain ⟨Dc, e1, e2, ec, q⟩ := q
    exact (h Dc e1 e2 ec).run pins s σ H Q I q⟩
theorem h_isE {a C : Addr} {targs : TA} {mg : Str → Option Value} {nm : Str} (T : ExcT K mg nm C) (h : targs σ H fun vs H1 => rIsE K C a vs H1 Q) : tIsE K a (.ref C) none targs σ H Q := ⟨C, rfl, rfl, T.ec, h⟩
theorem h_isER {a C C2 : Addr} {b : Bool} (h : PySem.W.kitOne K (.ref C) (.ref C2) = some b) (q : Q (.bl b) H) : rIsE K C a [.ref a, .ref C2] H Q := ⟨.ref C2, .ref C2, b, rfl, fun _ r => r, h, q⟩
theorem h_isEB {a C : Addr} {n : String} {b : Bool} (h : PySem.W.kitOne K (.ref C) (.type n) = some b) (q : Q (.bl b) H) : rIsE K C a [.ref a, .ty n] H Q := ⟨.ty n, .type n, b, rfl, fun _ r => r, h, q⟩
/-- the clause of a try meets the error -/
theorem h_wAs {C S' : Addr} {i : Nat} {ts : Addr → Value → Option Addr → TS} {Wout : WX} {mg : Str → Option Value} {nm : Str} (T : ExcT K mg nm S') (hs : PySem.W.subIn K (.ref C) (.ref S') = some true)
    (h : ∀ a, H a = none → ts a (.ref C) none { nx := fun σ' H' => D'.nx (σ'.set i none) H', rt := D'.rt, bk := fun σ' H' => D'.bk (σ'.set i none) H', ct := fun σ' H' => D'.ct (σ'.set i none) H' } (σ.set i (some (.ref a))) H) :
    wAs K (.ref S') i ts Wout D' (.ref C) none σ H := ⟨true, T.exm hs, fun _ a ha => h a ha, fun q => nomatch q⟩
theorem h_wOnly {C S' : Addr} {ts : Addr → Value → Option Addr → TS} {Wout : WX} {mg : Str → Option Value} {nm : Str} (T : ExcT K mg nm S') (hs : PySem.W.subIn K (.ref C) (.ref S') = some true)
    (h : ∀ a, H a = none → ts a (.ref C) none D' σ H) : wOnly K (.ref S') ts Wout D' (.ref C) none σ H := ⟨true, T.exm hs, fun _ a ha => h a ha, fun q => nomatch q⟩
end

/-! ### a try by its name -/
def tTryA (K : PySem.W.Frag) (c : Value) (i : Nat) (ts : Addr → Value → Option Addr → TS) (Wout : WX) (tb : WX → TS) : TS := fun D σ H => tb (wAs K c i ts Wout D) D σ H
def tTryO (K : PySem.W.Frag) (c : Value) (ts : Addr → Value → Option Addr → TS) (Wout : WX) (tb : WX → TS) : TS := fun D σ H => tb (wOnly K c ts Wout D) D σ H
section
variable {X : Cx} {n x : Str} {c : Value} {i : Nat} {body suite : List Stmt} {b₀ : Stmt} {np pos pos' : Pos} {tb : WX → TS} {ts : Addr → Value → Option Addr → TS} {Wout : WX} {D' : Ends} {σ : L2.St} {H : Hp} {K : PySem.W.Frag}
theorem ps_tryA (hs : X.stack = X.env :: X.outer) (hf : X.env.frame = some X.env.locals) (hN : X.N.Nodup) (hi : X.N[i]? = some n) (hln : X.env.kindOf n = some .local) (hc : Names X x c) (tk : Takes X Wout)
    (hb : ∀ (W : WX) (pn : List (Addr × Obj)) (xe : Value → Shared → Prop), Takes (X.tr pn xe) W → PassesOwn (model X.prog X.w) X.A X.env xe → PSs (X.tr pn xe) body (tb W))
    (hsu : ∀ (a : Addr) (oe : Obj) (cls : Value) (d : Option Addr) (pn : List (Addr × Obj)), Zc cls d oe → (∃ vs, oe.data = .fields vs) → PSs (X.suite a ((a, oe) :: pn)) (b₀ :: suite) (ts a cls d)) (hK : X.K = K := by rfl) :
    PS X (.Try body [.ExceptHandler (some (.Name x np)) (some n) (b₀ :: suite) pos'] [] [] pos) (tTryA K c i ts Wout tb) := hK ▸ ps_try_as hs hf hN hi hln hc tk hb hsu
theorem ps_tryO (hs : X.stack = X.env :: X.outer) (hf : X.env.frame = some X.env.locals) (hc : Names X x c) (tk : Takes X Wout)
    (hb : ∀ (W : WX) (pn : List (Addr × Obj)) (xe : Value → Shared → Prop), Takes (X.tr pn xe) W → PassesOwn (model X.prog X.w) X.A X.env xe → PSs (X.tr pn xe) body (tb W))
    (hsu : ∀ (a : Addr) (oe : Obj) (cls : Value) (d : Option Addr) (pn : List (Addr × Obj)), Zc cls d oe → (∃ vs, oe.data = .fields vs) → PSs (X.suite a ((a, oe) :: pn)) (b₀ :: suite) (ts a cls d)) (hK : X.K = K := by rfl) :
    PS X (.Try body [.ExceptHandler (some (.Name x np)) none (b₀ :: suite) pos'] [] [] pos) (tTryO K c ts Wout tb) := hK ▸ ps_try_only hs hf hc tk hb hsu
theorem h_tryA (h : tb (wAs K c i ts Wout D') D' σ H) : tTryA K c i ts Wout tb D' σ H := h
theorem h_tryO (h : tb (wOnly K c ts Wout D') D' σ H) : tTryO K c ts Wout tb D' σ H := h
end
theorem Post.mono2 {α : Type} {m : Res α} {P P' : α → Prop} {R R' : Err → Prop} (h : Post m P R) (hr : ∀ e, R e → R' e) (hp : ∀ a, P a → P' a) : Post m P' R' := h.mono hp hr
theorem boot_ValueError : bootBuiltins "ValueError" = some (.type "ValueError") := by decide +kernel
/-! ### things that are lists or tuples -/
def lenD (d : D) : Res Int := match d with | .lst l => .ok l.length | .tup l => .ok l.length | .str x => .ok x.length | _ => .stuck
section
variable {K : PySem.W.Frag} {B H : Hp} {Q : VK} {v : V} {d : D} {σ : L2.St} {g : TGs}
theorem Post.lenD {β : Type} {k : Int → Res β} {P : β → Prop} {R : Err → Prop} (h : Post ((Y.lenD d).bind k) P R) (hs : ∀ x, d ≠ .str x) : ∃ ds : List D, (d = .lst ds ∨ d = .tup ds) ∧ Post (k ds.length) P R := by
  cases d with
  | lst l => exact ⟨l, .inl rfl, h⟩
  | tup l => exact ⟨l, .inr rfl, h⟩
  | str x => exact absurd rfl (hs x)
  | _ => exact h.elim
theorem h_tupG {n : Nat} {p : Addr} {xs : List V} {N : L2.St → Hp → Prop} (s : SqT K H p xs) (hl : xs.length = n) (h : g xs σ H N) : gTup K n g (.ref p) σ H N := ⟨p, xs, rfl, s, hl, h⟩
theorem h_gcons {t : TG} {u : TGs} {x : V} {xs : List V} {N : L2.St → Hp → Prop} (h : t x σ H fun σ' H' => u xs σ' H' N) : gCons t u (x :: xs) σ H N := ⟨x, xs, rfl, h⟩
theorem h_gnil {N : L2.St → Hp → Prop} (h : N σ H) : gNil [] σ H N := ⟨rfl, h⟩
end

section
variable {K : PySem.W.Frag} {B H : Hp} {Q : VK} {p : Addr} {xs : List V} {d1 d2 d3 d4 d5 : D}
theorem h_lenTl {l : List D} (s : SqT K H p xs) (r : RepL K B xs (l.map enc)) (h : Q (.int l.length) H) : rLenY K [V.ref p] H Q := by
  refine ⟨p, xs, rfl, .inr s, ?_⟩
  rw [show xs.length = l.length from by rw [r.length, List.length_map]]
  exact h
theorem tup2 {x y : V} (hl : xs.length = 2) (h0 : atI xs 0 = some x) (h1 : atI xs 1 = some y) : xs = [x, y] := by
  match xs, hl with
  | [a, b], _ =>
    have e0 : a = x := Option.some.inj h0
    have e1 : b = y := Option.some.inj h1
    rw [e0, e1]
theorem tup3 {x y z : V} (hl : xs.length = 3) (h0 : atI xs 0 = some x) (h1 : atI xs 1 = some y) (h2 : atI xs 2 = some z) : xs = [x, y, z] := by
  match xs, hl with
  | [a, b, c], _ =>
    have e0 : a = x := Option.some.inj h0
    have e1 : b = y := Option.some.inj h1
    have e2 : c = z := Option.some.inj h2
    rw [e0, e1, e2]
theorem tup4 {x y z u : V} (hl : xs.length = 4) (h0 : atI xs 0 = some x) (h1 : atI xs 1 = some y) (h2 : atI xs 2 = some z) (h3 : atI xs 3 = some u) : xs = [x, y, z, u] := by
  match xs, hl with
  | [a, b, c, d], _ =>
    have e0 : a = x := Option.some.inj h0
    have e1 : b = y := Option.some.inj h1
    have e2 : c = z := Option.some.inj h2
    have e3 : d = u := Option.some.inj h3
    rw [e0, e1, e2, e3]
theorem RepL.open2 (r : RepL K B xs [d1, d2]) : ∃ u1 u2, xs = [u1, u2] ∧ Rep K B u1 d1 ∧ Rep K B u2 d2 := by
  cases r with | cons h1 r => cases r with | cons h2 r => cases r; exact ⟨_, _, rfl, h1, h2⟩
theorem RepL.open3 (r : RepL K B xs [d1, d2, d3]) : ∃ u1 u2 u3, xs = [u1, u2, u3] ∧ Rep K B u1 d1 ∧ Rep K B u2 d2 ∧ Rep K B u3 d3 := by
  cases r with | cons h1 r => cases r with | cons h2 r => cases r with | cons h3 r => cases r; exact ⟨_, _, _, rfl, h1, h2, h3⟩
theorem RepL.open4 (r : RepL K B xs [d1, d2, d3, d4]) : ∃ u1 u2 u3 u4, xs = [u1, u2, u3, u4] ∧ Rep K B u1 d1 ∧ Rep K B u2 d2 ∧ Rep K B u3 d3 ∧ Rep K B u4 d4 := by
  cases r with | cons h1 r => cases r with | cons h2 r => cases r with | cons h3 r => cases r with | cons h4 r => cases r; exact ⟨_, _, _, _, rfl, h1, h2, h3, h4⟩
end
/-! ### defs with defaults -/
structure FunV (K : PySem.W.Frag) (x qual : Str) (st : Stmt) (dv : List Value) (f : Addr) (fd : FuncData) : Prop where
  ex : ∃ (oc : Value) (od : Option Addr) (T : Addr) (o : Obj) (n : Nat) (kV doc pm : Value) (an : Option Addr) (cdv ct : Value) (osl : Array (Option Value)),
    fd = PySem.W.fnOf x qual (defArgs st) (defBody st) (defScope st) (.ref T) kV doc pm an cdv ct ∧ K.lookup f = some ⟨oc, od, .func fd, osl⟩ ∧ PySem.W.codeIn K cdv qual = true ∧ K.lookup T = some o ∧ o.data = .seq dv.toArray n
  kp : PySem.W.keepIn K (.ref f) = true
section
variable {P : Program} {w : World} {K : PySem.W.Frag} {mg : Str → Option Value} {base : Heap} {x qual : Str} {st : Stmt} {dv : List Value} {f : Addr} {fd : FuncData} {ps ks : List Str}
theorem funV_mk {oc : Value} {od an oT : Option Addr} {osl sT : Array (Option Value)} {kV doc pm cdv ct cT : Value} {T : Addr} {n : Nat} (l : K.lookup f = some ⟨oc, od, .func (PySem.W.fnOf x qual (defArgs st) (defBody st) (defScope st) (.ref T) kV doc pm an cdv ct), osl⟩)
    (c : PySem.W.codeIn K cdv qual = true) (k : PySem.W.keepIn K (.ref f) = true) (lT : K.lookup T = some ⟨cT, oT, .seq dv.toArray n, sT⟩) : FunV K x qual st dv f (PySem.W.fnOf x qual (defArgs st) (defBody st) (defScope st) (.ref T) kV doc pm an cdv ct) :=
  ⟨⟨oc, od, T, _, n, kV, doc, pm, an, cdv, ct, osl, rfl, l, c, lT, rfl⟩, k⟩
theorem FunV.okX {N : List Str} {k : Nat} {sp : Sp} (F : FunV K x qual st dv f fd) (S : FnScope N ps (defScope st)) (len : ∀ vs H Q E, sp vs H Q E → vs.length = ps.length)
    (hbody : ∀ (cdv : Value) (A : Around) (outer : List Env) (s : Shared) (H : Hp) (vs : List V) (Q : VK) (E : XK), Room k (A.deeper (envOfC qual (defScope st) s.heap.objs.size f cdv)) → sp vs H Q E →
      ∃ t, PSs (cxOf (L2.CX P w) P w K mg base N qual (defScope st) f cdv A outer s H E) (defBody st) t ∧ t { nx := fun _ H' => Q .non H', rt := Q } (start N vs) H) : FnOk P w K mg base (L2.CX P w) (k + 1) f fd ps sp := by
  obtain ⟨oc, od, T, o, n, kV, doc, pm, an, cdv, ct, osl, rfl, lk, hcd, _, _⟩ := F.ex
  exact fn_of lk hcd S len fun A outer s H vs Q E hr hsp => hbody cdv A outer s H vs Q E hr hsp
theorem FunV.ok {N : List Str} {k : Nat} {sp : Sp} (F : FunV K x qual st dv f fd) (S : FnScope N ps (defScope st)) (len : ∀ vs H Q E, sp vs H Q E → vs.length = ps.length)
    (hbody : ∀ (cdv : Value) (A : Around) (outer : List Env) (s : Shared) (H : Hp) (vs : List V) (Q : VK) (E : XK), Room k (A.deeper (envOfC qual (defScope st) s.heap.objs.size f cdv)) → sp vs H Q E →
      ∃ t, PSs (cxOf CX0 P w K mg base N qual (defScope st) f cdv A outer s H E).nox (defBody st) t ∧ t { nx := fun _ H' => Q .non H', rt := Q } (start N vs) H) : FnOk P w K mg base CX0 (k + 1) f fd ps sp := by
  obtain ⟨oc, od, T, o, n, kV, doc, pm, an, cdv, ct, osl, rfl, lk, hcd, _, _⟩ := F.ex
  refine fn_of lk hcd S len fun A outer s H vs Q E hr hsp => ?_
  obtain ⟨t, h, q⟩ := hbody cdv A outer s H vs Q E hr hsp
  exact ⟨t, h.nox, q⟩
/-- n values are written, the defaults behind the first j fill up -/
theorem FunV.binds (F : FunV K x qual st dv f fd) (n j : Nat) (hn : n + (dv.length - j) = ps.length)
    (h : ∀ (T : Addr) (kV doc pm : Value) (an : Option Addr) (cdv ct : Value) (us : List Value), us.length = n →
      ∃ k, bindArgs (PySem.W.fnOf x qual (defArgs st) (defBody st) (defScope st) (.ref T) kV doc pm an cdv ct) ⟨us, []⟩ = seqItems? (.ref T) >>= k ∧ k (some dv.toArray) = pure (ps.zip (us ++ dv.drop j))) : Binds K fd ps (dv.drop j) := by
  obtain ⟨oc, od, T, o, m, kV, doc, pm, an, cdv, ct, osl, rfl, lk, hcd, lT, oT⟩ := F.ex
  refine fun s us X hlen => ?_
  have l2 : us.length = n := by
    rw [List.length_append, List.length_drop] at hlen
    omega
  obtain ⟨k, e1, e2⟩ := h T kV doc pm an cdv ct us l2
  refine BindsTo.of_looks fun M => ?_
  rw [e1]
  exact looks_items X lT oT (.of_pure e2)
theorem FunV.kb {g : List Value → List Value → List Value} {gV : List V → List V → List V} (F : FunV K x qual st dv f fd)
    (h : ∀ (T : Addr) (kV doc pm : Value) (an : Option Addr) (cdv ct : Value) (us ws : List Value), (g us ws).length = ps.length → ∃ k, bindArgs (PySem.W.fnOf x qual (defArgs st) (defBody st) (defScope st) (.ref T) kV doc pm an cdv ct) ⟨us, ks.zip ws⟩ = seqItems? (.ref T) >>= k ∧ k (some dv.toArray) = pure (ps.zip (g us ws)))
    (r : ∀ {vs : List V} {us : List Value} {zs : List V} {ws : List Value}, Vals vs us → Vals zs ws → Vals (gV vs zs) (g us ws)) : KBinds K fd ps ks g gV := by
  obtain ⟨oc, od, T, o, m, kV, doc, pm, an, cdv, ct, osl, rfl, lk, hcd, lT, oT⟩ := F.ex
  refine ⟨fun s us ws X hl => ?_, r⟩
  obtain ⟨k, e1, e2⟩ := h T kV doc pm an cdv ct us ws hl
  refine BindsTo.of_looks fun M => ?_
  rw [e1]
  exact looks_items X lT oT (.of_pure e2)
end
/-! ### // by what may be negative -/
def CDivZ (_ j : Int) : Prop := j ≠ 0 ∧ j.natAbs.log2 < 9000
instance {i j : Int} : Decidable (CDivZ i j) := inferInstanceAs (Decidable (_ ∧ _))
theorem op_fdivZ {X : Cx} : OpR X (binaryOp .FloorDiv) (rI CDivZ fun i j => .int (Int.fdiv i j)) := opI fun i j _ _ _ _ _ hc q => floordiv_int hc.1 q (.inl (PyProof.noPylong_of_log2 hc.2))
/-! ### x is None -/
def isNonD : D → Bool | .non => true | _ => false
def rIsN : V → V → Hp → VK → Prop := fun x y H Q => y = .non ∧ Q (.bl (decide (x = .non))) H
def rNotN : V → V → Hp → VK → Prop := fun x y H Q => y = .non ∧ Q (.bl (!decide (x = .non))) H
theorem op_isNn {X : Cx} : OpR X (compareOp .Is) rIsN := op_isN
theorem op_notNn {X : Cx} : OpR X (compareOp .IsNot) rNotN := op_notN
section
variable {K : PySem.W.Frag} {B H : Hp} {Q : VK} {v : V} {d : D}
theorem Rep.isNon (r : Rep K B v d) : decide (v = .non) = isNonD d := by
  cases r <;> rfl
theorem h_isN (r : Rep K B v d) (h : Q (.bl (isNonD d)) H) : rIsN v .non H Q := ⟨rfl, by rw [r.isNon]; exact h⟩
theorem h_notN (r : Rep K B v d) (h : Q (.bl (!isNonD d)) H) : rNotN v .non H Q := ⟨rfl, by rw [r.isNon]; exact h⟩
end
/-! ### bool + bool, comparisons of lists, xs[::-1], xs.pop(i) -/
theorem int_add_bb (a b : Bool) : Gives (Builtin.«int.__add__» ⟨[.bool a, .bool b], []⟩) (.int ((if a = true then (1 : Int) else 0) + (if b = true then (1 : Int) else 0))) :=
  .of_wp fun M A E s Q h => by obtain ⟨hp, g, d, tk, os⟩ := s; wp_walk; exact ⟨_, rfl, h⟩
def rAddBB : V → V → Hp → VK → Prop := fun x y H Q => ∃ a b, x = .bl a ∧ y = .bl b ∧ Q (.int (b2z a + b2z b)) H
theorem op_addBB {X : Cx} : OpR X (binaryOp .Add) rAddBB := by
  intro pins s σ H x y v u Q I rx ry h
  obtain ⟨a, b, rfl, rfl, q⟩ := h
  cases rx
  cases ry
  exact binaryOp_gives (op := .Add) (T := "bool") rfl rfl F.fills_bool_add F.slot_bool_add F.entry_int_add (F.args_int_add_2 _ _) (int_add_bb a b) trivial ⟨.int (b2z a + b2z b), H, I.tok _, ⟨_, rfl⟩, q⟩
def rAddIB : V → V → Hp → VK → Prop := fun x y H Q => ∃ i k, x = .int i ∧ y = .bl k ∧ Q (.int (i + b2i k)) H
theorem op_addIB {X : Cx} : OpR X (binaryOp .Add) rAddIB := op_add_ib
section
variable {K : PySem.W.Frag} {B B' H H' : Hp} {σ : L2.St} {Q : VK} {x y v : V} {d e : D} {p q : Addr} {xs ys : List V} {te : TE}
theorem h_addBB {a b : Bool} (h : Q (.int (b2z a + b2z b)) H) : rAddBB (.bl a) (.bl b) H Q := ⟨a, b, rfl, rfl, h⟩
theorem h_addIB {i : Int} {k : Bool} (h : Q (.int (i + b2z k)) H) : rAddIB (.int i) (.bl k) H Q := ⟨i, k, rfl, rfl, by cases k <;> exact h⟩
/-- what may be compared as data -/
def Cmp (K : PySem.W.Frag) (H : Hp) (v : V) (d : D) : Prop := flatD d = true → Dp K H v (pyD d)
theorem Rep.cp (w : Ex B H) (r : Rep K B v d) : Cmp K H v d := r.dp w
theorem SqL.cp {ds : List D} (w : Ex B H) (s : SqL K H p xs) (r : RepL K B xs ds) : Cmp K H (.ref p) (.lst ds) := fun f => .lst s (RepL.dp w r f)
theorem h_eqC (rx : Cmp K H x d) (ry : Cmp K H y e) (o : okEq d e) (h : Q (.bl (eqD d e)) H) : rEqD K x y H Q := ⟨_, _, rx o.1, ry o.2.1, o.2.2.1, o.2.2.2, h⟩
theorem h_neC (rx : Cmp K H x d) (ry : Cmp K H y e) (o : okEq d e) (h : Q (.bl (!eqD d e)) H) : rNeD K x y H Q := ⟨_, _, rx o.1, ry o.2.1, o.2.2.1, o.2.2.2, h⟩
/-- xs[::-1] -/
theorem h_revL (h : te σ H fun x H1 => ∃ a xs, x = .ref a ∧ SqL K H1 a xs ∧ NwL xs.reverse H1 Q) : tRevL K te σ H Q := h
theorem h_revQ (s : SqL K H p xs) (h : NwL xs.reverse H Q) : ∃ a ys, V.ref p = .ref a ∧ SqL K H a ys ∧ NwL ys.reverse H Q := ⟨p, xs, rfl, s, h⟩
theorem RepL.rev0 : ∀ {xs : List V} {ds : List D}, RepL K B xs ds → RepL K B xs.reverse ds.reverse
  | _, _, .nil => .nil
  | _, _, .cons h t => by rw [List.reverse_cons, List.reverse_cons]; exact (RepL.rev0 t).append (.cons h .nil)
theorem RepL.rev {α : Type} [Enc α] {l : List α} (r : RepL K B xs (l.map enc)) : RepL K B xs.reverse (l.reverse.map enc) := by
  rw [List.map_reverse]
  exact RepL.rev0 r
theorem RepL.erase : ∀ {xs : List V} {ds : List D} (k : Nat), RepL K B xs ds → RepL K B (xs.eraseIdx k) (ds.eraseIdx k)
  | _, _, _, .nil => .nil
  | _, _, 0, .cons h t => t
  | _, _, k + 1, .cons h t => .cons h (RepL.erase k t)
theorem map_erase {α : Type} [Enc α] : ∀ (l : List α) (k : Nat), (l.eraseIdx k).map (enc : α → D) = (l.map enc).eraseIdx k
  | [], _ => rfl
  | _ :: _, 0 => rfl
  | x :: xs, k + 1 => congrArg (enc x :: ·) (map_erase xs k)
/-- l.pop(i), i from 0 on -/
def popR {α : Type} (l : List α) (i : Int) : Res (α × List α) := if 0 ≤ i ∧ i < (l.length : Int) ∧ l.length ≤ 1000000 then match l[i.toNat]? with | some x => .ok (x, l.eraseIdx i.toNat) | none => .stuck else .stuck
theorem Post.pop {α β : Type} {l : List α} {i : Int} {k : α × List α → Res β} {P : β → Prop} {R : Err → Prop} (h : Post ((popR l i).bind k) P R) : ∃ x, (0 ≤ i ∧ i < (l.length : Int) ∧ l.length ≤ 1000000) ∧ l[i.toNat]? = some x ∧ Post (k (x, l.eraseIdx i.toNat)) P R := by
  unfold popR at h
  by_cases c : 0 ≤ i ∧ i < (l.length : Int) ∧ l.length ≤ 1000000
  · rw [if_pos c] at h
    cases e : l[i.toNat]? with
    | none => rw [e] at h; exact h.elim
    | some x => rw [e] at h; exact ⟨x, c, rfl, h⟩
  · rw [if_neg c] at h; exact h.elim
theorem h_popL {α : Type} [Enc α] {l : List α} {i : Int} {b : α} (w : Ex B H) (m : Mu K B H p (l.map enc)) (hi : 0 ≤ i ∧ i < (l.length : Int) ∧ l.length ≤ 1000000) (hb : l[i.toNat]? = some b)
    (h : ∀ y H', Stp [p] B H B H' → Mu K B H' p ((l.eraseIdx i.toNat).map enc) → Rep K B y (enc b) → Q y H') : rPopAt (.ref p) [.int i] H Q := by
  obtain ⟨hb0, xs, hp, hr⟩ := id m
  have hl : xs.length = l.length := by rw [hr.length, List.length_map]
  obtain ⟨u, hu, ru⟩ := hr.get (i := i.toNat) (d := enc b) (by rw [List.getElem?_map, hb]; rfl)
  have rl : RepL K B (xs.eraseIdx i.toNat) ((l.eraseIdx i.toNat).map enc) := by
    rw [map_erase]
    exact RepL.erase _ hr
  refine ⟨p, xs, i, i.toNat, u, rfl, rfl, hp, by omega, by omega, ?_, hu, ?_⟩
  · unfold seqIndex?
    rw [hl]
    simp [show ¬ i < 0 from by omega, hi.1, hi.2.1]
  · obtain ⟨s, m'⟩ := Stp.mut w m rl
    exact h _ _ s m' ru
end
theorem pg_tupK {X : Cx} {pos : Pos} {es : List Expr} {k : Nat} {t : TGs} {n : Nat} {K : PySem.W.Frag} (hc : X.calm = true) (hK : X.K = K) (h : PGs X es t)
    (hn : (assignEach es X.env).length = n := by rfl) (hst : (assignEach es X.env).findIdx? (·.1) = none := by rfl) : PG X (.Tuple es k pos) (gTup K n t) := hK ▸ pg_tup hc h hn hst
/-! ### l * k, casts, constants -/
theorem list_mulW (l : Addr) (items : Array Value) (n : Nat) (dd : Option Addr) (sl : Array (Option Value)) (x : Int) (u : Tok) (hc0 : ¬(!Builtin.List.listFitsIndex x) = true) (hc1 : ¬items.size * x.toNat > (2 ^ 63 - 1) / 8) (hc2 : ¬Builtin.List.listTooLong (items.size * x.toNat) = true) :
    Meets (Builtin.«list.__mul__» ⟨[.ref l, .int x u], []⟩) (fun _ R s => s.heap.get? l = some { cls := .type "list", dict := dd, data := .seq items n, slots := sl } ∧ R (.ok (.ret (Value.ref s.heap.objs.size))) { s with heap := s.heap.push { cls := Value.type "list", data := Data.seq (List.foldl (fun x1 x2 => x1 ++ x2) #[] (List.replicate (if items.isEmpty = true then 0 else x.toNat) items)) }, toks := s.toks }) :=
  .of_wp fun prog w A R s h => by
    obtain ⟨hp, g, d, tk, os⟩ := s; obtain ⟨hl, h⟩ := h
    have hsz := PySem.AutoListH.joined_fits hc2
    wp_walk; refine wpAny_ite_false (decide_eq_false (Nat.not_lt.mpr hsz)) ?_; wp_walk; exact ⟨_, rfl, h⟩
theorem int_rmulW (a : Int) (t : Tok) (l : Addr) (items : Array Value) (n : Nat) (dd : Option Addr) (sl : Array (Option Value)) :
    Meets (Builtin.«int.__rmul__» ⟨[.int a t, .ref l], []⟩) (fun _ R s => s.heap.get? l = some { cls := .type "list", dict := dd, data := .seq items n, slots := sl } ∧ R (.ok (.ret Value.notImplemented)) s) :=
  .of_wp fun prog w A R s h => by obtain ⟨hp, g, d, tk, os⟩ := s; obtain ⟨hl, h⟩ := h; wp_walk; exact ⟨_, rfl, h⟩
def rRepQ (K : PySem.W.Frag) : R2 := fun x y H Q => ∃ l k xs, x = .ref l ∧ y = .int k ∧ SqL K H l xs ∧ -(2 ^ 63) ≤ k ∧ k < 2 ^ 63 ∧ xs.length * k.toNat ≤ sizeLine ∧ NwL (List.replicate k.toNat xs).flatten H Q
theorem op_repQ {X : Cx} : OpR X (binaryOp .Mult) (rRepQ X.K) := by
  intro pins s σ H x y v u Q I rx ry h
  obtain ⟨l, k, xs, rfl, rfl, hH, h1, h2, hz, q⟩ := h
  cases rx
  obtain ⟨t, rfl⟩ := ry
  obtain ⟨its, r, p1, z⟩ := I.list hH
  have hl := r.length
  obtain ⟨⟨cls, dd, data, sl⟩, e, hc, n, hd⟩ := p1.isList
  simp only at hc hd
  subst hc hd
  have hlen : its.toArray.size * k.toNat ≤ sizeLine := by rw [List.size_toArray, ← hl]; exact hz
  have hcap : ¬ its.toArray.size * k.toNat > (2 ^ 63 - 1) / 8 := by
    have : (sizeLine : Nat) ≤ (2 ^ 63 - 1) / 8 := by decide
    omega
  have hfit : ¬ (!Builtin.List.listFitsIndex k) = true := by
    rw [fitsIndex_both h1 h2]
    exact Bool.false_ne_true
  have hlong : ¬ Builtin.List.listTooLong (its.toArray.size * k.toNat) = true := by
    rw [notLongL hlen]
    exact Bool.false_ne_true
  have hnew : List.foldl (fun x1 x2 => x1 ++ x2) #[] (List.replicate (if its.toArray.isEmpty = true then 0 else k.toNat) its.toArray) = (List.replicate k.toNat its).flatten.toArray := by
    have f0 : ∀ m : Nat, List.foldl (fun x1 x2 => x1 ++ x2) #[] (List.replicate m its.toArray) = (List.replicate m its).flatten.toArray := fun m => by
      have := foldl_rep its m []
      rw [List.nil_append] at this
      exact this
    rw [f0]
    cases its with
    | nil => simp
    | cons a r' => rw [if_neg (by simp)]
  refine wpAny_binaryOp_repeat_ref (T := "list") (U := "int") (by decide) ⟨_, e, rfl⟩ (fun s' => typeIs_int s' k t) noFill_list_mul F.fills_int_mul F.slot_int_rmul repeat_list F.slot_int_index.lookup
    (call_meets F.slot_int_rmul (typeIs_int s k t) F.entry_int_rmul (F.args_int_rmul_2 _ _) (int_rmulW k t l its.toArray n dd sl)
      ⟨e, rfl, ⟨_, e, rfl⟩, call_meets F.slot_list_mul ⟨_, e, rfl⟩ F.entry_list_mul (F.args_list_mul_2 _ _) (list_mulW l its.toArray n dd sl k t hfit hcap hlong) ⟨e, ?_⟩⟩)
  rw [hnew]
  exact ⟨.ref _, _, I.lnew (t' := s.toks) (r.rep k.toNat) (by rw [PyProof.Rows.lm_len_rep_flat, Nat.mul_comm]; exact hz), rfl, q _ I.fresh⟩
section
variable {K : PySem.W.Frag} {B B' H H' : Hp} {σ : L2.St} {Q : VK} {x y v : V} {d e : D} {p q : Addr} {xs ys : List V} {te : TE}
theorem h_repQ {k : Int} {n : Nat} (s : SqL K H p xs) (hn : xs.length = n) (hz : n * k.toNat ≤ 1000000 ∧ -(2 ^ 62) ≤ k ∧ k < 2 ^ 62) (h : NwL (List.replicate k.toNat xs).flatten H Q) : rRepQ K (.ref p) (.int k) H Q :=
  ⟨p, k, xs, rfl, rfl, s, by omega, by omega, by rw [hn]; exact Nat.le_trans hz.1 (by decide), h⟩
theorem RepL.rep0 {ds : List D} (r : RepL K B xs ds) : ∀ k : Nat, RepL K B (List.replicate k xs).flatten (List.replicate k ds).flatten
  | 0 => .nil
  | k + 1 => by rw [List.replicate_succ, List.replicate_succ, List.flatten_cons, List.flatten_cons]; exact r.append (RepL.rep0 r k)
/-- l * k -/
def timesL {α : Type} (l : List α) (k : Int) : List α := (List.replicate k.toNat l).flatten
theorem RepL.times {α : Type} [Enc α] {l : List α} (r : RepL K B xs (l.map enc)) (k : Int) : RepL K B (List.replicate k.toNat xs).flatten ((timesL l k).map enc) := by
  have e : (timesL l k).map (enc : α → D) = (List.replicate k.toNat (l.map enc)).flatten := by
    unfold timesL
    rw [List.map_flatten, List.map_replicate]
  rw [e]
  exact r.rep0 _
/-- isinstance of a list that is only read, or of our own -/
theorem isiL {t : String} {l : List D} (s : SqL K H p xs) (q : Q (.bl (isA t (.lst l))) H) (ht : t ∈ ["bool", "int", "str", "list", "tuple", "dict"] := by simp) : rIsi K [.ref p, .ty t] H Q := by
  have ty : TyX K H (.ref p) (.type "list") := by
    rcases s with (h | ⟨o, h⟩) | ⟨o, its, n, h, hc, _⟩
    · exact .base (.lst h)
    · exact .base (.frz h)
    · exact .kList h hc
  exact ⟨.ref p, .ty t, _, .type t, isA t (.lst l), rfl, .ty t, ty, kit_ty (kit_tab _ (tyD_in (.lst l)) _ ht), q⟩
end
/-! ### things read as what they are -/
class Dec (α : Type) [Enc α] where
  dec : D → Option α
  ok : ∀ d x, dec d = some x → d = enc x
instance : Dec D := ⟨fun d => some d, fun d x e => Option.some.inj e⟩
instance : Dec Int := ⟨fun d => match d with | .int i => some i | _ => none, fun d x e => by cases d <;> simp at e; rw [e]; rfl⟩
instance : Dec Bool := ⟨fun d => match d with | .bl i => some i | _ => none, fun d x e => by cases d <;> simp at e; rw [e]; rfl⟩
instance : Dec Str := ⟨fun d => match d with | .str i => some i | _ => none, fun d x e => by cases d <;> simp at e; rw [e]; rfl⟩
instance {α : Type} [Enc α] [Dec α] : Dec (Option α) := ⟨fun d => match d with | .non => some none | d => (Dec.dec d).map some, fun d x e => by
  cases d with
  | non => cases Option.some.inj e; rfl
  | _ => all_goals
    obtain ⟨y, e1, e2⟩ := Option.map_eq_some_iff.mp (show Option.map some _ = some x from e)
    rw [← e2]
    show _ = (enc y : D)
    exact Dec.ok _ _ e1⟩
instance {α β : Type} [Enc α] [Enc β] [Dec α] [Dec β] : Dec (Tp2 α β) := ⟨fun d => match d with | .tup [a, b] => (Dec.dec a).bind fun x => (Dec.dec b).bind fun y => some ⟨x, y⟩ | _ => none, fun d x e => by
  split at e
  · obtain ⟨u, e1, e⟩ := Option.bind_eq_some_iff.mp e
    obtain ⟨w, e2, e⟩ := Option.bind_eq_some_iff.mp e
    cases Option.some.inj e
    rw [Dec.ok _ _ e1, Dec.ok _ _ e2]
    rfl
  · cases e⟩
instance {α β γ : Type} [Enc α] [Enc β] [Enc γ] [Dec α] [Dec β] [Dec γ] : Dec (Tp3 α β γ) := ⟨fun d => match d with | .tup [a, b, c] => (Dec.dec a).bind fun x => (Dec.dec b).bind fun y => (Dec.dec c).bind fun z => some ⟨x, y, z⟩ | _ => none, fun d x e => by
  split at e
  · obtain ⟨u, e1, e⟩ := Option.bind_eq_some_iff.mp e
    obtain ⟨w, e2, e⟩ := Option.bind_eq_some_iff.mp e
    obtain ⟨w2, e3, e⟩ := Option.bind_eq_some_iff.mp e
    cases Option.some.inj e
    rw [Dec.ok _ _ e1, Dec.ok _ _ e2, Dec.ok _ _ e3]
    rfl
  · cases e⟩
def decs {α : Type} [Enc α] [Dec α] : List D → Option (List α)
  | [] => some []
  | d :: ds => (Dec.dec d).bind fun x => (decs ds).bind fun xs => some (x :: xs)
theorem decs_ok {α : Type} [Enc α] [Dec α] : ∀ (ds : List D) (l : List α), decs ds = some l → ds = l.map enc
  | [], l, e => by cases Option.some.inj e; rfl
  | d :: ds, l, e => by
    obtain ⟨u, e1, e⟩ := Option.bind_eq_some_iff.mp e
    obtain ⟨w, e2, e⟩ := Option.bind_eq_some_iff.mp e
    cases Option.some.inj e
    rw [Dec.ok _ _ e1, decs_ok _ _ e2]
    rfl
instance {α : Type} [Enc α] [Dec α] : Dec (List α) := ⟨fun d => match d with | .lst ds => decs ds | _ => none, fun d x e => by
  split at e
  · rw [decs_ok _ _ e]; rfl
  · cases e⟩
def asD (α : Type) [Enc α] [Dec α] (d : D) : Res α := match Dec.dec d with | some x => .ok x | none => .stuck
theorem Post.asD {α β : Type} [Enc α] [Dec α] {d : D} {k : α → Res β} {P : β → Prop} {R : Err → Prop} (h : Post ((Y.asD α d).bind k) P R) : ∃ x, d = enc x ∧ Post (k x) P R := by
  unfold Y.asD at h
  cases e : Dec.dec (α := α) d with
  | none => rw [e] at h; exact h.elim
  | some x => rw [e] at h; exact ⟨x, Dec.ok _ _ e, h⟩
/-- what is there -/
def someR {α : Type} (o : Option α) : Res α := match o with | some x => .ok x | none => .stuck
theorem Post.some {α β : Type} {o : Option α} {k : α → Res β} {P : β → Prop} {R : Err → Prop} (h : Post ((someR o).bind k) P R) : ∃ x, o = Option.some x ∧ Post (k x) P R := by
  cases o with
  | none => exact h.elim
  | some x => exact ⟨x, rfl, h⟩
/-- a constant of the module: data that is written out -/
structure CT {α : Type} [Enc α] (K : PySem.W.Frag) (mg : Str → Option Value) (nm : Str) (C : Addr) (x : α) : Prop where
  g : mg nm = Option.some (.ref C)
  rep : ∀ B, Rep K B (.ref C) (enc x)
/-! ### defs that hand a new list back; l.pop() -/
def RetF (K : PySem.W.Frag) (W : List Addr) (B H : Hp) (ds : List D) (Q : VK) : Prop := ∀ p B' H', Stp W B H B' H' → H p = none → Mu K B' H' p ds → Q (.ref p) H'
def RetMF (K : PySem.W.Frag) (q : Addr) (B H : Hp) (ds es : List D) (Q : VK) : Prop := ∀ p B' H', Stp [q] B H B' H' → H p = none → Mu K B' H' p ds → Mu K B' H' q es → Q (.ref p) H'
def popE {α : Type} (l : List α) : Res (α × List α) := match l[l.length - 1]? with | some x => .ok (x, l.dropLast) | none => .stuck
theorem Post.popE {α β : Type} {l : List α} {k : α × List α → Res β} {P : β → Prop} {R : Err → Prop} (h : Post ((Y.popE l).bind k) P R) : ∃ x, l[l.length - 1]? = Option.some x ∧ Post (k (x, l.dropLast)) P R := by
  unfold Y.popE at h
  cases e : l[l.length - 1]? with
  | none => rw [e] at h; exact h.elim
  | some x => rw [e] at h; exact ⟨x, rfl, h⟩
section
variable {K : PySem.W.Frag} {B H : Hp} {Q : VK} {p : Addr} {xs : List V}
theorem RepL.dropLast : ∀ {xs : List V} {ds : List D}, RepL K B xs ds → RepL K B xs.dropLast ds.dropLast
  | _, _, .nil => .nil
  | _, _, .cons _ .nil => .nil
  | _, _, .cons h (.cons h2 t) => .cons h (RepL.dropLast (.cons h2 t))
theorem h_popE {α : Type} [Enc α] {l : List α} {b : α} (w : Ex B H) (m : Mu K B H p (l.map enc)) (hb : l[l.length - 1]? = some b)
    (h : ∀ y H', Stp [p] B H B H' → Mu K B H' p (l.dropLast.map enc) → Rep K B y (enc b) → Q y H') : rPop (.ref p) [] H Q := by
  obtain ⟨hb0, xs, hp, hr⟩ := id m
  have hl : xs.length = l.length := by rw [hr.length, List.length_map]
  obtain ⟨u, hu, ru⟩ := hr.get (i := l.length - 1) (d := enc b) (by rw [List.getElem?_map, hb]; rfl)
  have rl : RepL K B xs.dropLast (l.dropLast.map enc) := by
    rw [List.map_dropLast]
    exact RepL.dropLast hr
  obtain ⟨s, m'⟩ := Stp.mut w m rl
  exact ⟨p, xs, u, rfl, rfl, hp, by rw [hl]; exact hu, h _ _ s m' ru⟩
end
end Y

set_option Elab.async false
set_option linter.all false
set_option maxRecDepth 100000
set_option maxHeartbeats 2000000
namespace Y
open PySem PySem.Spec PyProof.Rows
open L2
open Enc (enc)
/-! # more readings: max of two, insert, enumerate -/
theorem h_fr {t : TS} {D' : Ends} {σ σ' : L2.St} {H : Hp} (e : σ = σ') (h : t D' σ' H) : t D' σ H := by rw [e]; exact h
def maxI (i j : Int) : Int := if j > i then j else i
def rMaxY : List V → Hp → VK → Prop := fun xs H Q => ∃ i j, xs = [.int i, .int j] ∧ Q (.int (if j > i then j else i)) H
theorem cr_max {X : Cx} (hc : X.calm = true) : CallR X (.builtin "max") rMaxY := call_max2 hc
theorem h_max {i j : Int} {H : Hp} {Q : VK} (h : Q (.int (maxI i j)) H) : rMaxY [.int i, .int j] H Q := ⟨i, j, rfl, h⟩
def rInsY : V → List V → Hp → VK → Prop := fun x vs H Q => ∃ (l : Addr) (xs : List V) (i : Int) (y : V), x = .ref l ∧ vs = [.int i, y] ∧ H l = some (.lst xs) ∧ xs.length < sizeLine ∧ 0 ≤ i ∧ i < 2 ^ 63 ∧ Q .non (upd H l (.lst (xs.take i.toNat ++ [y] ++ xs.drop i.toNat)))
theorem mt_insY {X : Cx} : MtR X "list.insert" rInsY := mt_insert
def insL {α : Type} (l : List α) (i : Int) (b : α) : List α := l.take i.toNat ++ [b] ++ l.drop i.toNat
section
variable {K : PySem.W.Frag} {B B' H H' : Hp} {Q : VK} {p : Addr} {y : V} {i : Int}
theorem h_insert {α : Type} [Enc α] {l : List α} {b : α} (w : Ex B H) (m : Mu K B H p (l.map enc)) (ry : Rep K B y (enc b)) (hz : l.length < 1000000 ∧ 0 ≤ i ∧ i < 2 ^ 63) (h : ∀ H', Stp [p] B H B H' → Mu K B H' p ((insL l i b).map enc) → Q .non H') : rInsY (.ref p) [.int i, y] H Q := by
  obtain ⟨hb, xs, hp, hr⟩ := id m
  refine ⟨p, xs, i, y, rfl, rfl, hp, by rw [hr.length, List.length_map]; exact Nat.lt_of_lt_of_le hz.1 (by decide), hz.2.1, hz.2.2, ?_⟩
  have rl : RepL K B (xs.take i.toNat ++ [y] ++ xs.drop i.toNat) ((insL l i b).map enc) := by
    unfold insL
    rw [List.map_append, List.map_append, List.map_take, List.map_drop]
    exact ((hr.take _).append (.cons ry .nil)).append (hr.drop _)
  obtain ⟨s, m'⟩ := Stp.mut w m rl
  exact h _ s m'
end
/-- the things with their places -/
def enumL {α : Type} (l : List α) : List (Tp2 Int α) := l.mapIdx fun i x => ⟨(i : Int), x⟩
def En (K : PySem.W.Frag) (vs : List V) (g : TG) (tb : TS) (D' : Ends) (σ : L2.St) (H : Hp) : Prop := tFor (iEnum K (fun _ H Q => Q vs H)) g tb D' σ H
section
variable {K : PySem.W.Frag} {σ : L2.St} {B H : Hp} {p : Addr} {xs : List V} {tb : TS} {D' : Ends} {g : TG} {α β S : Type} {P : β → Prop} {R : Err → Prop}
theorem h_enumE {ta : TA} (h : ta σ H fun vs H1 => En K vs g tb D' σ H1) : tFor (iEnum K ta) g tb D' σ H := h
theorem h_forEn [Enc α] {l : List α} {s0 : S} {f : Tp2 Int α → S → Res (Fl S β)} {k : S → Res β} (hP : Post ((forR (enumL l) s0 f).bind (afterR k)) P R) (hs : SqL K H p xs) (hr : RepL K B xs (l.map enc))
    (J : S → L2.St → Hp → Prop) (h0 : J s0 σ H) (hl : ∀ s σ' H', J s σ' H' → SqL K H' p xs)
    (hb : ∀ (N : L2.St → Hp → Prop) (T : Fl S β → Prop) (x : Tp2 Int α) u s σ' H', J s σ' H' → Rep K B u (enc x.b) → (∀ s' σ2 H2, J s' σ2 H2 → T (.nx s') → N σ2 H2) → (∀ r, T (.rt r) → P r) → (∀ s' σ2 H2, J s' σ2 H2 → T (.bk s') → D'.nx σ2 H2) → Post (f x s) T R →
      NewT [.int x.a, u] H' fun v H1 => g v σ' H1 fun σ2 H2 => tb { D' with nx := N, ct := N, bk := D'.nx } σ2 H2)
    (hd : ∀ s σ' H', J s σ' H' → Post (k s) P R → D'.nx σ' H') : En K [.ref p] g tb D' σ H := by
  refine ⟨p, xs, rfl, hs, for_it (n := xs.length) walk_enum (fun i σ' H' => ∃ s, J s σ' H' ∧ Post (forR ((enumL l).drop i) s f) (fun a => Post (afterR k a) P R) R) ⟨s0, h0, hP.bind⟩ (fun i σ' H' _ ⟨s, j, _⟩ => hl s σ' H' j) ?_ ?_⟩
  · rintro i v σ' H' H2 hi ⟨s, j, q⟩ ⟨T, y1, y2, rfl, hT, rfl, h1, h2⟩
    cases Option.some.inj h1
    have hll : xs.length = l.length := by rw [hr.length, List.length_map]
    have hil : i < l.length := by omega
    have hx : (enumL l)[i]? = some ⟨(i : Int), l[i]⟩ := by
      unfold enumL
      rw [List.getElem?_mapIdx, List.getElem?_eq_getElem hil]
      rfl
    obtain ⟨u, hu, ru⟩ := hr.get (i := i) (d := enc l[i]) (by rw [List.getElem?_map, List.getElem?_eq_getElem hil]; rfl)
    have h2 : xs[i]? = some y2 := h2
    rw [h2] at hu; cases hu
    exact (hb _ _ ⟨(i : Int), l[i]⟩ y2 s σ' H' j ru (fun s' σ2 H2 j2 t2 => ⟨s', j2, t2⟩) (fun r t2 => (t2 : Post (.ok r) P R).ok) (fun s' σ2 H2 j2 t2 => hd s' σ2 H2 j2 t2) (q.turn hx)).2 T hT
  · rintro σ' H' ⟨s, j, q⟩
    exact hd s σ' H' j (q.forN (by unfold enumL; rw [List.length_mapIdx, hr.length, List.length_map]; exact Nat.le_refl _))
end
end Y

set_option Elab.async false
set_option linter.all false
set_option maxRecDepth 100000
set_option maxHeartbeats 4000000
namespace A
open PySem PySem.Spec PyProof.Rows L2 Y
open Y.Enc (enc)
abbrev top (i : Nat) : Stmt := PySem.Challenge.pw_lanescroll_k14_lists_that_part.main.body.getD i (.Pass ⟨0, 0, 0, 0⟩)
/-! ### divisor -/
def m_divisor (a_one : Int) (a_other : Int) : Res Int :=
  lt ((absI a_one) : Int) fun x1 => lt ((absI a_other) : Int) fun x2 => (whileR (x2.natAbs + 1) ((x1, x2) : Int × Int) (fun (a12 : Int × Int) => (if (decide (0 < a12.2)) = true then guardR (0 < a12.2) <| lt ((a12.1 % a12.2) : Int) fun x16 => .ok (.nx (a12.2, x16)) else .ok (.bk (a12.1, a12.2))))).bind (afterR fun a17 => .ok a17.1)
def sp_divisor (K : PySem.W.Frag) : Sp := fun vs H Q _ => ∃ (B : Hp) (a_one : Int) (a_other : Int), Ex B H ∧ vs = [.int a_one, .int a_other] ∧ Post (m_divisor a_one a_other) (fun r => Ret K [] B H (enc r) Q) (fun _ => False)
abbrev s_divisor : Stmt := top 7
theorem sc_divisor : FnScope ["one", "other"] ["one", "other"] (defScope s_divisor) := ⟨rfl, rfl, rfl, by decide +kernel, rfl, by decide +kernel, by decide +kernel⟩
/-! ### is_number -/
def m_is_number (a_thing : D) : Res Bool :=
  (if (isA "int" a_thing) = true then .ok (!(isA "bool" a_thing)) else .ok false)
def sp_is_number (K : PySem.W.Frag) : Sp := fun vs H Q _ => ∃ (B : Hp) (v_thing : V) (a_thing : D), Ex B H ∧ vs = [v_thing] ∧ Rep K B v_thing (enc a_thing) ∧ Post (m_is_number a_thing) (fun r => Ret K [] B H (enc r) Q) (fun _ => False)
abbrev s_is_number : Stmt := top 8
theorem sc_is_number : FnScope ["thing"] ["thing"] (defScope s_is_number) := ⟨rfl, rfl, rfl, by decide +kernel, rfl, by decide +kernel, by decide +kernel⟩
/-! ### fraction -/
def m_fraction (a_top : D) (a_bottom : D) : Res (Tp2 Int Int) :=
  ((m_is_number a_top).noErr).bind fun x1 => (if x1 = true then ((m_is_number a_bottom).noErr).bind fun x7 => (if x7 = true then guardR (okEq a_bottom (enc (0 : Int))) <| (if (eqD a_bottom (enc (0 : Int))) = true then .err ⟨"NoFraction", []⟩ else (asI a_top).bind fun i13 => (asI a_bottom).bind fun i16 => ((m_divisor i13 i16).noErr).bind fun x19 => ((if (decide (i16 < 0)) = true then lt ((-x19) : Int) fun x28 => .ok x28 else .ok x19) : Res (Int)).bind fun a29 => guardR (CDivZ i13 a29) <| guardR (CDivZ i16 a29) <| .ok (⟨(Int.fdiv i13 a29), (Int.fdiv i16 a29)⟩ : (Tp2 Int Int))) else .err ⟨"NoFraction", []⟩) else .err ⟨"NoFraction", []⟩)
def sp_fraction (K : PySem.W.Frag) (mg : Str → Option Value) : Sp := fun vs H Q E => ∃ (B : Hp) (v_top : V) (a_top : D) (v_bottom : V) (a_bottom : D), Ex B H ∧ vs = [v_top, v_bottom] ∧ Rep K B v_top (enc a_top) ∧ Rep K B v_bottom (enc a_bottom) ∧ Post (m_fraction a_top a_bottom) (fun r => Ret K [] B H (enc r) Q) (fun e => Rai mg [] B H e E)
abbrev s_fraction : Stmt := top 9
theorem sc_fraction : FnScope ["top", "bottom", "share"] ["top", "bottom"] (defScope s_fraction) := ⟨rfl, rfl, rfl, by decide +kernel, rfl, by decide +kernel, by decide +kernel⟩
/-! ### is_fraction -/
def m_is_fraction (a_thing : D) : Res Bool :=
  (if (isA "tuple" a_thing) = true then (asT a_thing).bind fun l1 => (if (!decide ((l1.length : Int) = 2)) = true then .ok false else (asT a_thing).bind fun l8 => guardR (l8.length = 2) <| (ixR l8 0).bind fun x16 => (ixR l8 1).bind fun x20 => (m_is_number x16).bind fun x24 => (if x24 = true then (m_is_number x20).bind fun x30 => (if x30 = true then (asI x20).bind fun i36 => (if (decide (i36 < 1)) = true then .ok false else (asI x16).bind fun i39 => (m_divisor i39 i36).bind fun x42 => .ok (decide (x42 = 1))) else .ok false) else .ok false)) else .ok false)
def sp_is_fraction (K : PySem.W.Frag) : Sp := fun vs H Q _ => ∃ (B : Hp) (v_thing : V) (a_thing : D), Ex B H ∧ vs = [v_thing] ∧ Rep K B v_thing (enc a_thing) ∧ Post (m_is_fraction a_thing) (fun r => Ret K [] B H (enc r) Q) (fun _ => False)
abbrev s_is_fraction : Stmt := top 10
theorem sc_is_fraction : FnScope ["thing", "top", "bottom"] ["thing"] (defScope s_is_fraction) := ⟨rfl, rfl, rfl, by decide +kernel, rfl, by decide +kernel, by decide +kernel⟩
/-! ### is_moment -/
def m_is_moment (a_thing : D) : Res Bool :=
  (m_is_fraction a_thing).bind fun x1 => (if x1 = true then (asT a_thing).bind fun l7 => (ixR l7 0).bind fun x14 => (asI x14).bind fun i18 => .ok (decide (0 ≤ i18)) else .ok false)
def sp_is_moment (K : PySem.W.Frag) : Sp := fun vs H Q _ => ∃ (B : Hp) (v_thing : V) (a_thing : D), Ex B H ∧ vs = [v_thing] ∧ Rep K B v_thing (enc a_thing) ∧ Post (m_is_moment a_thing) (fun r => Ret K [] B H (enc r) Q) (fun _ => False)
abbrev s_is_moment : Stmt := top 11
theorem sc_is_moment : FnScope ["thing"] ["thing"] (defScope s_is_moment) := ⟨rfl, rfl, rfl, by decide +kernel, rfl, by decide +kernel, by decide +kernel⟩
/-! ### plus -/
def m_plus (a_one : (Tp2 Int Int)) (a_other : (Tp2 Int Int)) : Res (Tp2 Int Int) :=
  guardR (CMulW a_one.a a_other.b) <| guardR (CMulW a_other.a a_one.b) <| guardR (CMulW a_one.b a_other.b) <| (m_fraction (enc (((a_one.a * a_other.b) + (a_other.a * a_one.b)) : Int)) (enc ((a_one.b * a_other.b) : Int))).bind fun x37 => .ok x37
def sp_plus (K : PySem.W.Frag) (mg : Str → Option Value) : Sp := fun vs H Q E => ∃ (B : Hp) (v_one : V) (a_one : (Tp2 Int Int)) (v_other : V) (a_other : (Tp2 Int Int)), Ex B H ∧ vs = [v_one, v_other] ∧ Rep K B v_one (enc a_one) ∧ Rep K B v_other (enc a_other) ∧ Post (m_plus a_one a_other) (fun r => Ret K [] B H (enc r) Q) (fun e => Rai mg [] B H e E)
abbrev s_plus : Stmt := top 12
theorem sc_plus : FnScope ["one", "other"] ["one", "other"] (defScope s_plus) := ⟨rfl, rfl, rfl, by decide +kernel, rfl, by decide +kernel, by decide +kernel⟩
/-! ### minus -/
def m_minus (a_one : (Tp2 Int Int)) (a_other : (Tp2 Int Int)) : Res (Tp2 Int Int) :=
  guardR (CMulW a_one.a a_other.b) <| guardR (CMulW a_other.a a_one.b) <| guardR (CMulW a_one.b a_other.b) <| (m_fraction (enc (((a_one.a * a_other.b) - (a_other.a * a_one.b)) : Int)) (enc ((a_one.b * a_other.b) : Int))).bind fun x37 => .ok x37
def sp_minus (K : PySem.W.Frag) (mg : Str → Option Value) : Sp := fun vs H Q E => ∃ (B : Hp) (v_one : V) (a_one : (Tp2 Int Int)) (v_other : V) (a_other : (Tp2 Int Int)), Ex B H ∧ vs = [v_one, v_other] ∧ Rep K B v_one (enc a_one) ∧ Rep K B v_other (enc a_other) ∧ Post (m_minus a_one a_other) (fun r => Ret K [] B H (enc r) Q) (fun e => Rai mg [] B H e E)
abbrev s_minus : Stmt := top 13
theorem sc_minus : FnScope ["one", "other"] ["one", "other"] (defScope s_minus) := ⟨rfl, rfl, rfl, by decide +kernel, rfl, by decide +kernel, by decide +kernel⟩
/-! ### times -/
def m_times (a_one : (Tp2 Int Int)) (a_other : (Tp2 Int Int)) : Res (Tp2 Int Int) :=
  guardR (CMulW a_one.a a_other.a) <| guardR (CMulW a_one.b a_other.b) <| (m_fraction (enc ((a_one.a * a_other.a) : Int)) (enc ((a_one.b * a_other.b) : Int))).bind fun x25 => .ok x25
def sp_times (K : PySem.W.Frag) (mg : Str → Option Value) : Sp := fun vs H Q E => ∃ (B : Hp) (v_one : V) (a_one : (Tp2 Int Int)) (v_other : V) (a_other : (Tp2 Int Int)), Ex B H ∧ vs = [v_one, v_other] ∧ Rep K B v_one (enc a_one) ∧ Rep K B v_other (enc a_other) ∧ Post (m_times a_one a_other) (fun r => Ret K [] B H (enc r) Q) (fun e => Rai mg [] B H e E)
abbrev s_times : Stmt := top 14
theorem sc_times : FnScope ["one", "other"] ["one", "other"] (defScope s_times) := ⟨rfl, rfl, rfl, by decide +kernel, rfl, by decide +kernel, by decide +kernel⟩
/-! ### shared -/
def m_shared (a_one : (Tp2 Int Int)) (a_other : (Tp2 Int Int)) : Res (Tp2 Int Int) :=
  (if (decide (a_other.a = 0)) = true then .err ⟨"NoFraction", []⟩ else guardR (CMulW a_one.a a_other.b) <| guardR (CMulW a_one.b a_other.a) <| (m_fraction (enc ((a_one.a * a_other.b) : Int)) (enc ((a_one.b * a_other.a) : Int))).bind fun x31 => .ok x31)
def sp_shared (K : PySem.W.Frag) (mg : Str → Option Value) : Sp := fun vs H Q E => ∃ (B : Hp) (v_one : V) (a_one : (Tp2 Int Int)) (v_other : V) (a_other : (Tp2 Int Int)), Ex B H ∧ vs = [v_one, v_other] ∧ Rep K B v_one (enc a_one) ∧ Rep K B v_other (enc a_other) ∧ Post (m_shared a_one a_other) (fun r => Ret K [] B H (enc r) Q) (fun e => Rai mg [] B H e E)
abbrev s_shared : Stmt := top 15
theorem sc_shared : FnScope ["one", "other"] ["one", "other"] (defScope s_shared) := ⟨rfl, rfl, rfl, by decide +kernel, rfl, by decide +kernel, by decide +kernel⟩
/-! ### less -/
def m_less (a_one : (Tp2 Int Int)) (a_other : (Tp2 Int Int)) : Res Bool :=
  guardR (CMulW a_one.a a_other.b) <| guardR (CMulW a_other.a a_one.b) <| .ok (decide ((a_one.a * a_other.b) < (a_other.a * a_one.b)))
def sp_less (K : PySem.W.Frag) : Sp := fun vs H Q _ => ∃ (B : Hp) (v_one : V) (a_one : (Tp2 Int Int)) (v_other : V) (a_other : (Tp2 Int Int)), Ex B H ∧ vs = [v_one, v_other] ∧ Rep K B v_one (enc a_one) ∧ Rep K B v_other (enc a_other) ∧ Post (m_less a_one a_other) (fun r => Ret K [] B H (enc r) Q) (fun _ => False)
abbrev s_less : Stmt := top 16
theorem sc_less : FnScope ["one", "other"] ["one", "other"] (defScope s_less) := ⟨rfl, rfl, rfl, by decide +kernel, rfl, by decide +kernel, by decide +kernel⟩
/-! ### is_edit -/
def m_is_edit (a_thing : D) : Res Bool :=
  (if (isA "tuple" a_thing) = true then (asT a_thing).bind fun l1 => (if (!decide ((l1.length : Int) = 3)) = true then .ok false else (asT a_thing).bind fun l8 => guardR (l8.length = 3) <| (ixR l8 0).bind fun x16 => (ixR l8 1).bind fun x20 => (ixR l8 2).bind fun x24 => (m_is_fraction x16).bind fun x28 => (if x28 = true then (asD (Tp2 Int Int) x16).bind fun x35 => (m_less (⟨0, 1⟩ : (Tp2 Int Int)) x35).bind fun x38 => (if x38 = true then (m_is_moment x24).bind fun x44 => (if x44 = true then (if (isNonD x20) = true then guardR (okEq x24 (enc (⟨0, 1⟩ : (Tp2 Int Int)))) <| .ok (eqD x24 (enc (⟨0, 1⟩ : (Tp2 Int Int)))) else (m_is_moment x20).bind fun x51 => .ok x51) else .ok false) else .ok false) else .ok false)) else .ok false)
def sp_is_edit (K : PySem.W.Frag) : Sp := fun vs H Q _ => ∃ (B : Hp) (v_thing : V) (a_thing : D), Ex B H ∧ vs = [v_thing] ∧ Rep K B v_thing (enc a_thing) ∧ Post (m_is_edit a_thing) (fun r => Ret K [] B H (enc r) Q) (fun _ => False)
abbrev s_is_edit : Stmt := top 18
theorem sc_is_edit : FnScope ["thing", "span", "start", "rate"] ["thing"] (defScope s_is_edit) := ⟨rfl, rfl, rfl, by decide +kernel, rfl, by decide +kernel, by decide +kernel⟩
/-! ### is_edits -/
def m_is_edits (a_thing : (List (Tp3 (Tp2 Int Int) (Option (Tp2 Int Int)) (Tp2 Int Int)))) : Res Bool :=
  (if (isA "list" (enc a_thing)) = true then (compR (a_thing) (() : Unit) (fun x12 (a16 : Unit) => (m_is_edit (enc x12)).bind fun x28 => .ok (some x28, ()))).bind <| un2 fun acc15 a16 => .ok (acc15.all id) else .ok false)
def sp_is_edits (K : PySem.W.Frag) : Sp := fun vs H Q _ => ∃ (B : Hp) (v_thing : V) (a_thing : (List (Tp3 (Tp2 Int Int) (Option (Tp2 Int Int)) (Tp2 Int Int)))), Ex B H ∧ vs = [v_thing] ∧ Bor K B H [] v_thing (a_thing.map enc) ∧ Post (m_is_edits a_thing) (fun r => Ret K [] B H (enc r) Q) (fun _ => False)
abbrev s_is_edits : Stmt := top 19
theorem sc_is_edits : FnScope ["thing", "edit"] ["thing"] (defScope s_is_edits) := ⟨rfl, rfl, rfl, by decide +kernel, rfl, by decide +kernel, by decide +kernel⟩
/-! ### sure_edits -/
def m_sure_edits (a_thing : (List (Tp3 (Tp2 Int Int) (Option (Tp2 Int Int)) (Tp2 Int Int)))) : Res Unit :=
  ((m_is_edits a_thing).noErr).bind fun x1 => (if x1 = true then .ok () else .err ⟨"NoEdits", []⟩)
def sp_sure_edits (K : PySem.W.Frag) (mg : Str → Option Value) : Sp := fun vs H Q E => ∃ (B : Hp) (v_thing : V) (a_thing : (List (Tp3 (Tp2 Int Int) (Option (Tp2 Int Int)) (Tp2 Int Int)))), Ex B H ∧ vs = [v_thing] ∧ Bor K B H [] v_thing (a_thing.map enc) ∧ Post (m_sure_edits a_thing) (fun r => Ret K [] B H (enc r) Q) (fun e => Rai mg [] B H e E)
abbrev s_sure_edits : Stmt := top 20
theorem sc_sure_edits : FnScope ["thing"] ["thing"] (defScope s_sure_edits) := ⟨rfl, rfl, rfl, by decide +kernel, rfl, by decide +kernel, by decide +kernel⟩
/-! ### sure_moment -/
def m_sure_moment (a_thing : D) : Res Unit :=
  ((m_is_moment a_thing).noErr).bind fun x1 => (if x1 = true then .ok () else .err ⟨"NoMoment", []⟩)
def sp_sure_moment (K : PySem.W.Frag) (mg : Str → Option Value) : Sp := fun vs H Q E => ∃ (B : Hp) (v_thing : V) (a_thing : D), Ex B H ∧ vs = [v_thing] ∧ Rep K B v_thing (enc a_thing) ∧ Post (m_sure_moment a_thing) (fun r => Ret K [] B H (enc r) Q) (fun e => Rai mg [] B H e E)
abbrev s_sure_moment : Stmt := top 21
theorem sc_sure_moment : FnScope ["thing"] ["thing"] (defScope s_sure_moment) := ⟨rfl, rfl, rfl, by decide +kernel, rfl, by decide +kernel, by decide +kernel⟩
/-! ### led_by -/
def m_led_by (a_edit : (Tp3 (Tp2 Int Int) (Option (Tp2 Int Int)) (Tp2 Int Int))) (a_later : (Tp2 Int Int)) : Res (Option (Tp2 Int Int)) :=
  (if (isNonD (enc a_edit.b)) = true then .ok none else (m_times a_edit.c a_later).bind fun x19 => (someR a_edit.b).bind fun x26 => (m_plus x26 x19).bind fun x29 => .ok (some x29))
def sp_led_by (K : PySem.W.Frag) (mg : Str → Option Value) : Sp := fun vs H Q E => ∃ (B : Hp) (v_edit : V) (a_edit : (Tp3 (Tp2 Int Int) (Option (Tp2 Int Int)) (Tp2 Int Int))) (v_later : V) (a_later : (Tp2 Int Int)), Ex B H ∧ vs = [v_edit, v_later] ∧ Rep K B v_edit (enc a_edit) ∧ Rep K B v_later (enc a_later) ∧ Post (m_led_by a_edit a_later) (fun r => Ret K [] B H (enc r) Q) (fun e => Rai mg [] B H e E)
abbrev s_led_by : Stmt := top 22
theorem sc_led_by : FnScope ["edit", "later"] ["edit", "later"] (defScope s_led_by) := ⟨rfl, rfl, rfl, by decide +kernel, rfl, by decide +kernel, by decide +kernel⟩
/-! ### mapped -/
def m_mapped (a_edits : (List (Tp3 (Tp2 Int Int) (Option (Tp2 Int Int)) (Tp2 Int Int)))) (a_t : (Tp2 Int Int)) : Res (Option (Tp2 Int Int)) :=
  (m_sure_edits a_edits).bind fun x1 => (m_sure_moment (enc a_t)).bind fun x8 => (forR (a_edits) (a_t : (Tp2 Int Int)) (fun x27 (a26 : (Tp2 Int Int)) => ((m_less a26 x27.a).noErr).bind fun x42 => (if x42 = true then (m_led_by x27 a26).bind fun x48 => .ok (.rt x48) else (m_minus a26 x27.a).bind fun x61 => .ok (.nx x61)))).bind (afterR fun a68 => .ok none)
def sp_mapped (K : PySem.W.Frag) (mg : Str → Option Value) : Sp := fun vs H Q E => ∃ (B : Hp) (v_edits : V) (a_edits : (List (Tp3 (Tp2 Int Int) (Option (Tp2 Int Int)) (Tp2 Int Int)))) (v_t : V) (a_t : (Tp2 Int Int)), Ex B H ∧ vs = [v_edits, v_t] ∧ Bor K B H [] v_edits (a_edits.map enc) ∧ Rep K B v_t (enc a_t) ∧ Post (m_mapped a_edits a_t) (fun r => Ret K [] B H (enc r) Q) (fun e => Rai mg [] B H e E)
abbrev s_mapped : Stmt := top 23
theorem sc_mapped : FnScope ["edits", "t", "later", "edit"] ["edits", "t"] (defScope s_mapped) := ⟨rfl, rfl, rfl, by decide +kernel, rfl, by decide +kernel, by decide +kernel⟩
/-! ### borders_of -/
def m_borders_of (a_edits : (List (Tp3 (Tp2 Int Int) (Option (Tp2 Int Int)) (Tp2 Int Int)))) : Res (List (Tp2 Int Int)) :=
  (forR (a_edits) (([(⟨0, 1⟩ : (Tp2 Int Int))] : List (Tp2 Int Int)) : (List (Tp2 Int Int))) (fun x20 (a19 : (List (Tp2 Int Int))) => (ixR a19 (-1)).bind fun x31 => (m_plus x31 x20.a).bind fun x41 => guardR (a19.length < 1000000) <| .ok (.nx (a19 ++ [x41])))).bind (afterR fun a50 => .ok a50)
def sp_borders_of (K : PySem.W.Frag) (mg : Str → Option Value) : Sp := fun vs H Q E => ∃ (B : Hp) (v_edits : V) (a_edits : (List (Tp3 (Tp2 Int Int) (Option (Tp2 Int Int)) (Tp2 Int Int)))), Ex B H ∧ vs = [v_edits] ∧ Bor K B H [] v_edits (a_edits.map enc) ∧ Post (m_borders_of a_edits) (fun r => Ret K [] B H (enc r) Q) (fun e => Rai mg [] B H e E)
abbrev s_borders_of : Stmt := top 24
theorem sc_borders_of : FnScope ["edits", "found", "edit"] ["edits"] (defScope s_borders_of) := ⟨rfl, rfl, rfl, by decide +kernel, rfl, by decide +kernel, by decide +kernel⟩
/-! ### joined_borders -/
def m_joined_borders (a_one : (List (Tp2 Int Int))) (a_other : (List (Tp2 Int Int))) : Res (List (Tp2 Int Int)) :=
  (forR (a_one) ((0, ([] : List (Tp2 Int Int))) : Int × (List (Tp2 Int Int))) (fun x19 (a18 : Int × (List (Tp2 Int Int))) => (whileR (a_other.length + 1) ((a18.1, a18.2) : Int × (List (Tp2 Int Int))) (fun (a35 : Int × (List (Tp2 Int Int))) => (if (decide (a35.1 < (a_other.length : Int))) = true then (ixR a_other a35.1).bind fun x47 => (m_less x47 x19).bind fun x51 => (if x51 = true then (ixR a_other a35.1).bind fun x61 => guardR (a35.2.length < 1000000) <| lt ((a35.1 + 1) : Int) fun x67 => .ok (.nx (x67, (a35.2 ++ [x61]))) else .ok (.bk (a35.1, a35.2))) else .ok (.bk (a35.1, a35.2))))).bind (afterR fun a68 => (((if (decide (a68.1 < (a_other.length : Int))) = true then (ixR a_other a68.1).bind fun x86 => guardR (okEq (enc x86) (enc x19)) <| .ok (eqD (enc x86) (enc x19)) else .ok false) : Res Bool).bind fun b90 => (if b90 = true then lt ((a68.1 + 1) : Int) fun x94 => .ok x94 else .ok a68.1) : Res (Int)).bind fun a95 => guardR (a68.2.length < 1000000) <| .ok (.nx (a95, (a68.2 ++ [x19])))))).bind (afterR fun a101 => guardR (a101.2.length + (cutL a_other (some a101.1) none).length ≤ 1000000) <| .ok (a101.2 ++ (cutL a_other (some a101.1) none)))
def sp_joined_borders (K : PySem.W.Frag) : Sp := fun vs H Q _ => ∃ (B : Hp) (v_one : V) (a_one : (List (Tp2 Int Int))) (v_other : V) (a_other : (List (Tp2 Int Int))), Ex B H ∧ vs = [v_one, v_other] ∧ Rep K B v_one (enc a_one) ∧ Rep K B v_other (enc a_other) ∧ Post (m_joined_borders a_one a_other) (fun r => Ret K [] B H (enc r) Q) (fun _ => False)
abbrev s_joined_borders : Stmt := top 25
theorem sc_joined_borders : FnScope ["one", "other", "found", "at", "border"] ["one", "other"] (defScope s_joined_borders) := ⟨rfl, rfl, rfl, by decide +kernel, rfl, by decide +kernel, by decide +kernel⟩
/-! ### parted -/
def m_parted (a_one : (List (Tp3 (Tp2 Int Int) (Option (Tp2 Int Int)) (Tp2 Int Int)))) (a_other : (List (Tp3 (Tp2 Int Int) (Option (Tp2 Int Int)) (Tp2 Int Int)))) : Res (Option (Tp2 Int Int)) :=
  (m_sure_edits a_one).bind fun x1 => (m_sure_edits a_other).bind fun x8 => (m_borders_of a_one).bind fun x15 => (m_borders_of a_other).bind fun x22 => ((m_joined_borders x15 x22).noErr).bind fun x29 => (forR (enumL (cutL x29 none (some (-1)))) (() : Unit) (fun x56 (a55 : Unit) => (ixR x29 (x56.a + 1)).bind fun x83 => (m_plus x56.b x83).bind fun x87 => (m_shared x87 (⟨2, 1⟩ : (Tp2 Int Int))).bind fun x99 => (forR ([(⟨x56.b, x99⟩ : (Tp2 (Tp2 Int Int) (Tp2 Int Int))).a, (⟨x56.b, x99⟩ : (Tp2 (Tp2 Int Int) (Tp2 Int Int))).b]) (() : Unit) (fun x124 (a123 : Unit) => (m_mapped a_one x124).bind fun x131 => (m_mapped a_other x124).bind fun x138 => guardR (okEq (enc x131) (enc x138)) <| (if (!(eqD (enc x131) (enc x138))) = true then .ok (.rt (.rt (some x124))) else .ok (.nx ())))).bind (afterR fun a145 => .ok (.nx ())))).bind (afterR fun a150 => .ok none)
def sp_parted (K : PySem.W.Frag) (mg : Str → Option Value) : Sp := fun vs H Q E => ∃ (B : Hp) (v_one : V) (a_one : (List (Tp3 (Tp2 Int Int) (Option (Tp2 Int Int)) (Tp2 Int Int)))) (v_other : V) (a_other : (List (Tp3 (Tp2 Int Int) (Option (Tp2 Int Int)) (Tp2 Int Int)))), Ex B H ∧ vs = [v_one, v_other] ∧ Bor K B H [] v_one (a_one.map enc) ∧ Bor K B H [] v_other (a_other.map enc) ∧ Post (m_parted a_one a_other) (fun r => Ret K [] B H (enc r) Q) (fun e => Rai mg [] B H e E)
abbrev s_parted : Stmt := top 26
theorem sc_parted : FnScope ["one", "other", "marks", "k", "border", "middle", "t"] ["one", "other"] (defScope s_parted) := ⟨rfl, rfl, rfl, by decide +kernel, rfl, by decide +kernel, by decide +kernel⟩
/-! ### _law_cell_at -/
def l_cell_at (a_script : (List Int)) (a_k : Int) : Res Int :=
  (if (decide (a_k < (a_script.length : Int))) = true then (ixR a_script a_k).bind fun x9 => .ok x9 else .ok 0)
def sp__law_cell_at (K : PySem.W.Frag) : Sp := fun vs H Q _ => ∃ (B : Hp) (v_script : V) (a_script : (List Int)) (a_k : Int), Ex B H ∧ vs = [v_script, .int a_k] ∧ Bor K B H [] v_script (a_script.map enc) ∧ Post (l_cell_at a_script a_k) (fun r => Ret K [] B H (enc r) Q) (fun _ => False)
abbrev s__law_cell_at : Stmt := top 28
theorem sc__law_cell_at : FnScope ["_law_script", "_law_k"] ["_law_script", "_law_k"] (defScope s__law_cell_at) := ⟨rfl, rfl, rfl, by decide +kernel, rfl, by decide +kernel, by decide +kernel⟩
/-! ### _law_digit -/
def l_digit (a_state : (List Int)) (a_base : Int) : Res (Int × (List Int)) :=
  ((if (decide ((a_state.length : Int) = 1)) = true then (ixR a_state 0).bind fun x12 => guardR (a_state.length + ([(x12 % 2147483647), 0] : List Int).length ≤ 1000000) <| .ok (a_state ++ ([(x12 % 2147483647), 0] : List Int)) else .ok a_state) : Res ((List Int))).bind fun a26 => (ixR a26 0).bind fun x34 => (if (decide (a_base ≤ x34)) = true then (ixR a26 0).bind fun x42 => guardR (0 < a_base) <| lt ((x42 % a_base) : Int) fun x46 => (ixR a26 0).bind fun x51 => guardR (CDivW x51 a_base) <| (setR a26 0 (x51 / a_base)).bind fun x55 => .ok (x46, x55) else (ixR a26 2).bind fun x64 => (setR a26 2 (x64 + 1)).bind fun x68 => (ixR x68 1).bind fun x77 => (ixR x68 2).bind fun x85 => lt (((((x77 + (7919 * x85)) + 1) * 48271) % 2147483647) : Int) fun x89 => guardR (CMulW x89 ((x89 / 1009) + 69621)) <| lt (((x89 * ((x89 / 1009) + 69621)) % 2147483647) : Int) fun x90 => guardR (CMulW x90 ((x90 / 2003) + 40692)) <| guardR (0 < a_base) <| .ok ((((x90 * ((x90 / 2003) + 40692)) % 2147483399) % a_base), x68))
def sp__law_digit (K : PySem.W.Frag) : Sp := fun vs H Q _ => ∃ (B : Hp) (p_state : Addr) (a_state : (List Int)) (a_base : Int), Ex B H ∧ vs = [.ref p_state, .int a_base] ∧ Mu K B H p_state (a_state.map enc) ∧ Post (l_digit a_state a_base) (fun r => RetM K p_state B H (enc r.1) (r.2.map enc) Q) (fun _ => False)
abbrev s__law_digit : Stmt := top 29
theorem sc__law_digit : FnScope ["_law_state", "_law_base", "_law_found", "_law_number"] ["_law_state", "_law_base"] (defScope s__law_digit) := ⟨rfl, rfl, rfl, by decide +kernel, rfl, by decide +kernel, by decide +kernel⟩
/-! ### _law_shared -/
def l_shared (a_left : Int) (a_right_here : Int) : Res Int :=
  lt ((absI a_left) : Int) fun x1 => lt ((absI a_right_here) : Int) fun x2 => (whileR (x2.natAbs + 1) ((x1, x2) : Int × Int) (fun (a12 : Int × Int) => (if (decide (0 < a12.2)) = true then guardR (0 < a12.2) <| lt ((a12.1 % a12.2) : Int) fun x16 => .ok (.nx (a12.2, x16)) else .ok (.bk (a12.1, a12.2))))).bind (afterR fun a17 => .ok a17.1)
def sp__law_shared (K : PySem.W.Frag) : Sp := fun vs H Q _ => ∃ (B : Hp) (a_left : Int) (a_right_here : Int), Ex B H ∧ vs = [.int a_left, .int a_right_here] ∧ Post (l_shared a_left a_right_here) (fun r => Ret K [] B H (enc r) Q) (fun _ => False)
abbrev s__law_shared : Stmt := top 30
theorem sc__law_shared : FnScope ["_law_left", "_law_right_here"] ["_law_left", "_law_right_here"] (defScope s__law_shared) := ⟨rfl, rfl, rfl, by decide +kernel, rfl, by decide +kernel, by decide +kernel⟩
/-! ### _law_lowest -/
def l_lowest (a_top : Int) (a_bottom : Int) : Res (Tp2 Int Int) :=
  (l_shared a_top a_bottom).bind fun x1 => guardR (CDivW a_top x1) <| guardR (CDivW a_bottom x1) <| .ok (⟨(a_top / x1), (a_bottom / x1)⟩ : (Tp2 Int Int))
def sp__law_lowest (K : PySem.W.Frag) : Sp := fun vs H Q _ => ∃ (B : Hp) (a_top : Int) (a_bottom : Int), Ex B H ∧ vs = [.int a_top, .int a_bottom] ∧ Post (l_lowest a_top a_bottom) (fun r => Ret K [] B H (enc r) Q) (fun _ => False)
abbrev s__law_lowest : Stmt := top 31
theorem sc__law_lowest : FnScope ["_law_top", "_law_bottom", "_law_share"] ["_law_top", "_law_bottom"] (defScope s__law_lowest) := ⟨rfl, rfl, rfl, by decide +kernel, rfl, by decide +kernel, by decide +kernel⟩
/-! ### _law_plus -/
def l_plus (a_left : (Tp2 Int Int)) (a_right_here : (Tp2 Int Int)) : Res (Tp2 Int Int) :=
  guardR (CMulW a_left.a a_right_here.b) <| guardR (CMulW a_right_here.a a_left.b) <| guardR (CMulW a_left.b a_right_here.b) <| (l_lowest ((a_left.a * a_right_here.b) + (a_right_here.a * a_left.b)) (a_left.b * a_right_here.b)).bind fun x37 => .ok x37
def sp__law_plus (K : PySem.W.Frag) : Sp := fun vs H Q _ => ∃ (B : Hp) (v_left : V) (a_left : (Tp2 Int Int)) (v_right_here : V) (a_right_here : (Tp2 Int Int)), Ex B H ∧ vs = [v_left, v_right_here] ∧ Rep K B v_left (enc a_left) ∧ Rep K B v_right_here (enc a_right_here) ∧ Post (l_plus a_left a_right_here) (fun r => Ret K [] B H (enc r) Q) (fun _ => False)
abbrev s__law_plus : Stmt := top 32
theorem sc__law_plus : FnScope ["_law_left", "_law_right_here"] ["_law_left", "_law_right_here"] (defScope s__law_plus) := ⟨rfl, rfl, rfl, by decide +kernel, rfl, by decide +kernel, by decide +kernel⟩
/-! ### _law_minus -/
def l_minus (a_left : (Tp2 Int Int)) (a_right_here : (Tp2 Int Int)) : Res (Tp2 Int Int) :=
  guardR (CMulW a_left.a a_right_here.b) <| guardR (CMulW a_right_here.a a_left.b) <| guardR (CMulW a_left.b a_right_here.b) <| (l_lowest ((a_left.a * a_right_here.b) - (a_right_here.a * a_left.b)) (a_left.b * a_right_here.b)).bind fun x37 => .ok x37
def sp__law_minus (K : PySem.W.Frag) : Sp := fun vs H Q _ => ∃ (B : Hp) (v_left : V) (a_left : (Tp2 Int Int)) (v_right_here : V) (a_right_here : (Tp2 Int Int)), Ex B H ∧ vs = [v_left, v_right_here] ∧ Rep K B v_left (enc a_left) ∧ Rep K B v_right_here (enc a_right_here) ∧ Post (l_minus a_left a_right_here) (fun r => Ret K [] B H (enc r) Q) (fun _ => False)
abbrev s__law_minus : Stmt := top 33
theorem sc__law_minus : FnScope ["_law_left", "_law_right_here"] ["_law_left", "_law_right_here"] (defScope s__law_minus) := ⟨rfl, rfl, rfl, by decide +kernel, rfl, by decide +kernel, by decide +kernel⟩
/-! ### _law_times -/
def l_times (a_left : (Tp2 Int Int)) (a_right_here : (Tp2 Int Int)) : Res (Tp2 Int Int) :=
  guardR (CMulW a_left.a a_right_here.a) <| guardR (CMulW a_left.b a_right_here.b) <| (l_lowest (a_left.a * a_right_here.a) (a_left.b * a_right_here.b)).bind fun x25 => .ok x25
def sp__law_times (K : PySem.W.Frag) : Sp := fun vs H Q _ => ∃ (B : Hp) (v_left : V) (a_left : (Tp2 Int Int)) (v_right_here : V) (a_right_here : (Tp2 Int Int)), Ex B H ∧ vs = [v_left, v_right_here] ∧ Rep K B v_left (enc a_left) ∧ Rep K B v_right_here (enc a_right_here) ∧ Post (l_times a_left a_right_here) (fun r => Ret K [] B H (enc r) Q) (fun _ => False)
abbrev s__law_times : Stmt := top 34
theorem sc__law_times : FnScope ["_law_left", "_law_right_here"] ["_law_left", "_law_right_here"] (defScope s__law_times) := ⟨rfl, rfl, rfl, by decide +kernel, rfl, by decide +kernel, by decide +kernel⟩
/-! ### _law_less -/
def l_less (a_left : (Tp2 Int Int)) (a_right_here : (Tp2 Int Int)) : Res Bool :=
  guardR (CMulW a_left.a a_right_here.b) <| guardR (CMulW a_right_here.a a_left.b) <| .ok (decide ((a_left.a * a_right_here.b) < (a_right_here.a * a_left.b)))
def sp__law_less (K : PySem.W.Frag) : Sp := fun vs H Q _ => ∃ (B : Hp) (v_left : V) (a_left : (Tp2 Int Int)) (v_right_here : V) (a_right_here : (Tp2 Int Int)), Ex B H ∧ vs = [v_left, v_right_here] ∧ Rep K B v_left (enc a_left) ∧ Rep K B v_right_here (enc a_right_here) ∧ Post (l_less a_left a_right_here) (fun r => Ret K [] B H (enc r) Q) (fun _ => False)
abbrev s__law_less : Stmt := top 35
theorem sc__law_less : FnScope ["_law_left", "_law_right_here"] ["_law_left", "_law_right_here"] (defScope s__law_less) := ⟨rfl, rfl, rfl, by decide +kernel, rfl, by decide +kernel, by decide +kernel⟩
/-! ### _law_amount -/
def l_amount (a_state : (List Int)) : Res ((Tp2 Int Int) × (List Int)) :=
  (l_digit a_state 7).bind fun x1 => (l_digit x1.2 13).bind fun x7 => (l_digit x7.2 4).bind fun x13 => (l_lowest x7.1 (1 + x13.1)).bind fun x19 => (l_digit x13.2 1000000000).bind fun x25 => (l_digit x25.2 1000000).bind fun x31 => (l_lowest ((x25.1 * 1000000) + x31.1) 1000003).bind fun x37 => (l_digit x31.2 1000000000).bind fun x43 => (l_lowest x43.1 997).bind fun x49 => (l_digit x43.2 7).bind fun x55 => (ixR ([x19, x19, (⟨x55.1, 1⟩ : (Tp2 Int Int)), (⟨0, 1⟩ : (Tp2 Int Int)), x19, x49, x37] : List (Tp2 Int Int)) x1.1).bind fun x80 => .ok (x80, x55.2)
def sp__law_amount (K : PySem.W.Frag) : Sp := fun vs H Q _ => ∃ (B : Hp) (p_state : Addr) (a_state : (List Int)), Ex B H ∧ vs = [.ref p_state] ∧ Mu K B H p_state (a_state.map enc) ∧ Post (l_amount a_state) (fun r => RetM K p_state B H (enc r.1) (r.2.map enc) Q) (fun _ => False)
abbrev s__law_amount : Stmt := top 36
theorem sc__law_amount : FnScope ["_law_state", "_law_way", "_law_small", "_law_great", "_law_far"] ["_law_state"] (defScope s__law_amount) := ⟨rfl, rfl, rfl, by decide +kernel, rfl, by decide +kernel, by decide +kernel⟩
/-! ### _law_edit -/
def l_edit (a_state : (List Int)) (a_ahead : (List (Tp3 (Tp2 Int Int) (Option (Tp2 Int Int)) (Tp2 Int Int)))) : Res ((Tp3 (Tp2 Int Int) (Option (Tp2 Int Int)) (Tp2 Int Int)) × (List Int)) :=
  (l_digit a_state 7).bind fun x1 => (l_amount x1.2).bind fun x7 => (l_digit x7.2 3).bind fun x13 => (l_lowest 1 (1 + x13.1)).bind fun x19 => (l_plus x7.1 x19).bind fun x25 => (l_amount x13.2).bind fun x31 => (l_amount x31.2).bind fun x62 => (l_digit x62.2 6).bind fun x73 => (ixR ([(⟨1, 1⟩ : (Tp2 Int Int)), (⟨1, 1⟩ : (Tp2 Int Int)), (⟨0, 1⟩ : (Tp2 Int Int)), (⟨2, 1⟩ : (Tp2 Int Int)), (⟨1, 2⟩ : (Tp2 Int Int)), x62.1] : List (Tp2 Int Int)) x73.1).bind fun x83 => (if (decide (x1.1 = 0)) = true then .ok ((⟨(⟨x25, (), (⟨0, 1⟩ : (Tp2 Int Int))⟩ : (Tp3 (Tp2 Int Int) Unit (Tp2 Int Int))).a, none, (⟨x25, (), (⟨0, 1⟩ : (Tp2 Int Int))⟩ : (Tp3 (Tp2 Int Int) Unit (Tp2 Int Int))).c⟩ : (Tp3 (Tp2 Int Int) (Option (Tp2 Int Int)) (Tp2 Int Int))), x73.2) else ((if (decide (x1.1 < 3)) = true then guardR (okEq (enc a_ahead) (enc ([] : List D))) <| (if (!(eqD (enc a_ahead) (enc ([] : List D)))) = true then (ixR a_ahead (-1)).bind fun x113 => .ok (!(isNonD (enc x113.b))) else .ok false) else .ok false) : Res Bool).bind fun b123 => (if b123 = true then (ixR a_ahead (-1)).bind fun x131 => (l_times x131.c x131.a).bind fun x153 => (someR x131.b).bind fun x159 => (l_plus x159 x153).bind fun x162 => .ok ((⟨(⟨x25, x162, x131.c⟩ : (Tp3 (Tp2 Int Int) (Tp2 Int Int) (Tp2 Int Int))).a, (some ((⟨x25, x162, x131.c⟩ : (Tp3 (Tp2 Int Int) (Tp2 Int Int) (Tp2 Int Int))).b)), (⟨x25, x162, x131.c⟩ : (Tp3 (Tp2 Int Int) (Tp2 Int Int) (Tp2 Int Int))).c⟩ : (Tp3 (Tp2 Int Int) (Option (Tp2 Int Int)) (Tp2 Int Int))), x73.2) else .ok ((⟨(⟨x25, x31.1, x83⟩ : (Tp3 (Tp2 Int Int) (Tp2 Int Int) (Tp2 Int Int))).a, (some ((⟨x25, x31.1, x83⟩ : (Tp3 (Tp2 Int Int) (Tp2 Int Int) (Tp2 Int Int))).b)), (⟨x25, x31.1, x83⟩ : (Tp3 (Tp2 Int Int) (Tp2 Int Int) (Tp2 Int Int))).c⟩ : (Tp3 (Tp2 Int Int) (Option (Tp2 Int Int)) (Tp2 Int Int))), x73.2)))
def sp__law_edit (K : PySem.W.Frag) : Sp := fun vs H Q _ => ∃ (B : Hp) (p_state : Addr) (a_state : (List Int)) (v_ahead : V) (a_ahead : (List (Tp3 (Tp2 Int Int) (Option (Tp2 Int Int)) (Tp2 Int Int)))), Ex B H ∧ vs = [.ref p_state, v_ahead] ∧ Mu K B H p_state (a_state.map enc) ∧ Bor K B H [p_state] v_ahead (a_ahead.map enc) ∧ Post (l_edit a_state a_ahead) (fun r => RetM K p_state B H (enc r.1) (r.2.map enc) Q) (fun _ => False)
abbrev s__law_edit : Stmt := top 37
theorem sc__law_edit : FnScope ["_law_state", "_law_ahead", "_law_way", "_law_span", "_law_start", "_law_rate", "_law_before"] ["_law_state", "_law_ahead"] (defScope s__law_edit) := ⟨rfl, rfl, rfl, by decide +kernel, rfl, by decide +kernel, by decide +kernel⟩
/-! ### _law_edits -/
def l_edits (a_state : (List Int)) (a_few : Int) : Res ((List (Tp3 (Tp2 Int Int) (Option (Tp2 Int Int)) (Tp2 Int Int))) × (List Int)) :=
  (l_digit a_state (a_few + 1)).bind fun x8 => guardR (-(2 ^ 62) ≤ (x8.1 : Int) ∧ (x8.1 : Int) < 2 ^ 62) <| (forR (rngI 0 x8.1) ((([] : List (Tp3 (Tp2 Int Int) (Option (Tp2 Int Int)) (Tp2 Int Int))), x8.2) : (List (Tp3 (Tp2 Int Int) (Option (Tp2 Int Int)) (Tp2 Int Int))) × (List Int)) (fun x23 (a22 : (List (Tp3 (Tp2 Int Int) (Option (Tp2 Int Int)) (Tp2 Int Int))) × (List Int)) => (l_edit a22.2 a22.1).bind fun x30 => guardR (a22.1.length < 1000000) <| .ok (.nx ((a22.1 ++ [x30.1]), x30.2)))).bind (afterR fun a38 => .ok (a38.1, a38.2))
def sp__law_edits (K : PySem.W.Frag) : Sp := fun vs H Q _ => ∃ (B : Hp) (p_state : Addr) (a_state : (List Int)) (a_few : Int), Ex B H ∧ vs = [.ref p_state, .int a_few] ∧ Mu K B H p_state (a_state.map enc) ∧ Post (l_edits a_state a_few) (fun r => RetM K p_state B H (enc r.1) (r.2.map enc) Q) (fun _ => False)
abbrev s__law_edits : Stmt := top 38
theorem sc__law_edits : FnScope ["_law_state", "_law_few", "_law_found", "_law_k"] ["_law_state", "_law_few"] (defScope s__law_edits) := ⟨rfl, rfl, rfl, by decide +kernel, rfl, by decide +kernel, by decide +kernel⟩
/-! ### _law_led -/
def l_led (a_edits_here : (List (Tp3 (Tp2 Int Int) (Option (Tp2 Int Int)) (Tp2 Int Int)))) (a_t : (Tp2 Int Int)) : Res (Option (Tp2 Int Int)) :=
  (forR (a_edits_here) (a_t : (Tp2 Int Int)) (fun x13 (a12 : (Tp2 Int Int)) => (l_less a12 x13.a).bind fun x34 => (if x34 = true then (if (isNonD (enc x13.b)) = true then .ok (.rt none) else (l_times x13.c a12).bind fun x40 => (someR x13.b).bind fun x46 => (l_plus x46 x40).bind fun x49 => .ok (.rt (some x49))) else (l_minus a12 x13.a).bind fun x55 => .ok (.nx x55)))).bind (afterR fun a61 => .ok none)
def sp__law_led (K : PySem.W.Frag) : Sp := fun vs H Q _ => ∃ (B : Hp) (v_edits_here : V) (a_edits_here : (List (Tp3 (Tp2 Int Int) (Option (Tp2 Int Int)) (Tp2 Int Int)))) (v_t : V) (a_t : (Tp2 Int Int)), Ex B H ∧ vs = [v_edits_here, v_t] ∧ Bor K B H [] v_edits_here (a_edits_here.map enc) ∧ Rep K B v_t (enc a_t) ∧ Post (l_led a_edits_here a_t) (fun r => Ret K [] B H (enc r) Q) (fun _ => False)
abbrev s__law_led : Stmt := top 39
theorem sc__law_led : FnScope ["_law_edits_here", "_law_t", "_law_span", "_law_start", "_law_rate"] ["_law_edits_here", "_law_t"] (defScope s__law_led) := ⟨rfl, rfl, rfl, by decide +kernel, rfl, by decide +kernel, by decide +kernel⟩
/-! ### _law_changed -/
def l_changed (a_state : (List Int)) (a_edits_here : (List (Tp3 (Tp2 Int Int) (Option (Tp2 Int Int)) (Tp2 Int Int)))) : Res ((List (Tp3 (Tp2 Int Int) (Option (Tp2 Int Int)) (Tp2 Int Int))) × (List Int)) :=
  (l_digit a_state 9).bind fun x1 => (l_digit x1.2 (maxI 1 (a_edits_here.length : Int))).bind fun x11 => (l_digit x11.2 12).bind fun x17 => (l_lowest 1 (1 + x17.1)).bind fun x23 => ((if (decide (x1.1 = 0)) = true then .ok true else guardR (okEq (enc a_edits_here) (enc ([] : List D))) <| .ok (eqD (enc a_edits_here) (enc ([] : List D)))) : Res Bool).bind fun b37 => (if b37 = true then (l_edits x17.2 7).bind fun x41 => .ok (x41.1, x41.2) else (ixR a_edits_here x11.1).bind fun x51 => lt ((cutL a_edits_here none (some x11.1)) : (List (Tp3 (Tp2 Int Int) (Option (Tp2 Int Int)) (Tp2 Int Int)))) fun x74 => lt ((cutL a_edits_here (some (x11.1 + 1)) none) : (List (Tp3 (Tp2 Int Int) (Option (Tp2 Int Int)) (Tp2 Int Int)))) fun x84 => (l_plus x51.a x23).bind fun x85 => lt (([(⟨x85, x51.b, x51.c⟩ : (Tp3 (Tp2 Int Int) (Option (Tp2 Int Int)) (Tp2 Int Int)))] : List (Tp3 (Tp2 Int Int) (Option (Tp2 Int Int)) (Tp2 Int Int))) : (List (Tp3 (Tp2 Int Int) (Option (Tp2 Int Int)) (Tp2 Int Int)))) fun x101 => guardR (x74.length + x101.length ≤ 1000000) <| guardR ((x74 ++ x101).length + x84.length ≤ 1000000) <| lt (((x74 ++ x101) ++ x84) : (List (Tp3 (Tp2 Int Int) (Option (Tp2 Int Int)) (Tp2 Int Int)))) fun x128 => guardR (x74.length + x84.length ≤ 1000000) <| lt (([a_edits_here, x128, (x74 ++ x84)] : List (List (Tp3 (Tp2 Int Int) (Option (Tp2 Int Int)) (Tp2 Int Int)))) : (List (List (Tp3 (Tp2 Int Int) (Option (Tp2 Int Int)) (Tp2 Int Int))))) fun x149 => (l_edit x17.2 x74).bind fun x150 => lt (([x150.1] : List (Tp3 (Tp2 Int Int) (Option (Tp2 Int Int)) (Tp2 Int Int))) : (List (Tp3 (Tp2 Int Int) (Option (Tp2 Int Int)) (Tp2 Int Int)))) fun x161 => guardR (x74.length + x161.length ≤ 1000000) <| lt ((cutL a_edits_here (some x11.1) none) : (List (Tp3 (Tp2 Int Int) (Option (Tp2 Int Int)) (Tp2 Int Int)))) fun x184 => guardR ((x74 ++ x161).length + x184.length ≤ 1000000) <| lt (((x74 ++ x161) ++ x184) : (List (Tp3 (Tp2 Int Int) (Option (Tp2 Int Int)) (Tp2 Int Int)))) fun x198 => lt (([(⟨(⟨x23, (), (⟨0, 1⟩ : (Tp2 Int Int))⟩ : (Tp3 (Tp2 Int Int) Unit (Tp2 Int Int))).a, none, (⟨x23, (), (⟨0, 1⟩ : (Tp2 Int Int))⟩ : (Tp3 (Tp2 Int Int) Unit (Tp2 Int Int))).c⟩ : (Tp3 (Tp2 Int Int) (Option (Tp2 Int Int)) (Tp2 Int Int)))] : List (Tp3 (Tp2 Int Int) (Option (Tp2 Int Int)) (Tp2 Int Int))) : (List (Tp3 (Tp2 Int Int) (Option (Tp2 Int Int)) (Tp2 Int Int)))) fun x214 => guardR (a_edits_here.length + x214.length ≤ 1000000) <| lt ((a_edits_here ++ x214) : (List (Tp3 (Tp2 Int Int) (Option (Tp2 Int Int)) (Tp2 Int Int)))) fun x228 => lt (([x198, x228] : List (List (Tp3 (Tp2 Int Int) (Option (Tp2 Int Int)) (Tp2 Int Int)))) : (List (List (Tp3 (Tp2 Int Int) (Option (Tp2 Int Int)) (Tp2 Int Int))))) fun x234 => guardR (x149.length + x234.length ≤ 1000000) <| lt ((cutL x74 none (some (-1))) : (List (Tp3 (Tp2 Int Int) (Option (Tp2 Int Int)) (Tp2 Int Int)))) fun x260 => (ixR a_edits_here x11.1).bind fun x265 => lt (([x265] : List (Tp3 (Tp2 Int Int) (Option (Tp2 Int Int)) (Tp2 Int Int))) : (List (Tp3 (Tp2 Int Int) (Option (Tp2 Int Int)) (Tp2 Int Int)))) fun x274 => guardR (x260.length + x274.length ≤ 1000000) <| lt ((cutL x74 (some (-1)) none) : (List (Tp3 (Tp2 Int Int) (Option (Tp2 Int Int)) (Tp2 Int Int)))) fun x297 => guardR ((x260 ++ x274).length + x297.length ≤ 1000000) <| lt (((x260 ++ x274) ++ x297) : (List (Tp3 (Tp2 Int Int) (Option (Tp2 Int Int)) (Tp2 Int Int)))) fun x311 => guardR (x311.length + x84.length ≤ 1000000) <| lt (([(x311 ++ x84), a_edits_here] : List (List (Tp3 (Tp2 Int Int) (Option (Tp2 Int Int)) (Tp2 Int Int)))) : (List (List (Tp3 (Tp2 Int Int) (Option (Tp2 Int Int)) (Tp2 Int Int))))) fun x330 => guardR ((x149 ++ x234).length + x330.length ≤ 1000000) <| lt (((x149 ++ x234) ++ x330) : (List (List (Tp3 (Tp2 Int Int) (Option (Tp2 Int Int)) (Tp2 Int Int))))) fun x347 => (l_times x51.a (⟨1, 2⟩ : (Tp2 Int Int))).bind fun x353 => ((if (isNonD (enc x51.b)) = true then lt (([(⟨(⟨x353, (), x51.c⟩ : (Tp3 (Tp2 Int Int) Unit (Tp2 Int Int))).a, none, (⟨x353, (), x51.c⟩ : (Tp3 (Tp2 Int Int) Unit (Tp2 Int Int))).c⟩ : (Tp3 (Tp2 Int Int) (Option (Tp2 Int Int)) (Tp2 Int Int))), (⟨(⟨x353, (), x51.c⟩ : (Tp3 (Tp2 Int Int) Unit (Tp2 Int Int))).a, none, (⟨x353, (), x51.c⟩ : (Tp3 (Tp2 Int Int) Unit (Tp2 Int Int))).c⟩ : (Tp3 (Tp2 Int Int) (Option (Tp2 Int Int)) (Tp2 Int Int)))] : List (Tp3 (Tp2 Int Int) (Option (Tp2 Int Int)) (Tp2 Int Int))) : (List (Tp3 (Tp2 Int Int) (Option (Tp2 Int Int)) (Tp2 Int Int)))) fun x377 => guardR (x74.length + x377.length ≤ 1000000) <| guardR ((x74 ++ x377).length + x84.length ≤ 1000000) <| lt (((x74 ++ x377) ++ x84) : (List (Tp3 (Tp2 Int Int) (Option (Tp2 Int Int)) (Tp2 Int Int)))) fun x404 => lt (([x404] : List (List (Tp3 (Tp2 Int Int) (Option (Tp2 Int Int)) (Tp2 Int Int)))) : (List (List (Tp3 (Tp2 Int Int) (Option (Tp2 Int Int)) (Tp2 Int Int))))) fun x410 => guardR (x347.length + x410.length ≤ 1000000) <| lt (([(⟨(⟨x51.a, x23, (⟨0, 1⟩ : (Tp2 Int Int))⟩ : (Tp3 (Tp2 Int Int) (Tp2 Int Int) (Tp2 Int Int))).a, (some ((⟨x51.a, x23, (⟨0, 1⟩ : (Tp2 Int Int))⟩ : (Tp3 (Tp2 Int Int) (Tp2 Int Int) (Tp2 Int Int))).b)), (⟨x51.a, x23, (⟨0, 1⟩ : (Tp2 Int Int))⟩ : (Tp3 (Tp2 Int Int) (Tp2 Int Int) (Tp2 Int Int))).c⟩ : (Tp3 (Tp2 Int Int) (Option (Tp2 Int Int)) (Tp2 Int Int)))] : List (Tp3 (Tp2 Int Int) (Option (Tp2 Int Int)) (Tp2 Int Int))) : (List (Tp3 (Tp2 Int Int) (Option (Tp2 Int Int)) (Tp2 Int Int)))) fun x443 => guardR (x74.length + x443.length ≤ 1000000) <| guardR ((x74 ++ x443).length + x84.length ≤ 1000000) <| lt (((x74 ++ x443) ++ x84) : (List (Tp3 (Tp2 Int Int) (Option (Tp2 Int Int)) (Tp2 Int Int)))) fun x470 => lt (([x470] : List (List (Tp3 (Tp2 Int Int) (Option (Tp2 Int Int)) (Tp2 Int Int)))) : (List (List (Tp3 (Tp2 Int Int) (Option (Tp2 Int Int)) (Tp2 Int Int))))) fun x476 => guardR ((x347 ++ x410).length + x476.length ≤ 1000000) <| lt (((x347 ++ x410) ++ x476) : (List (List (Tp3 (Tp2 Int Int) (Option (Tp2 Int Int)) (Tp2 Int Int))))) fun x494 => .ok x494 else (l_times x51.c x353).bind fun x500 => (someR x51.b).bind fun x506 => (l_plus x506 x500).bind fun x509 => lt (([(⟨x353, x51.b, x51.c⟩ : (Tp3 (Tp2 Int Int) (Option (Tp2 Int Int)) (Tp2 Int Int))), (⟨(⟨x353, x509, x51.c⟩ : (Tp3 (Tp2 Int Int) (Tp2 Int Int) (Tp2 Int Int))).a, (some ((⟨x353, x509, x51.c⟩ : (Tp3 (Tp2 Int Int) (Tp2 Int Int) (Tp2 Int Int))).b)), (⟨x353, x509, x51.c⟩ : (Tp3 (Tp2 Int Int) (Tp2 Int Int) (Tp2 Int Int))).c⟩ : (Tp3 (Tp2 Int Int) (Option (Tp2 Int Int)) (Tp2 Int Int)))] : List (Tp3 (Tp2 Int Int) (Option (Tp2 Int Int)) (Tp2 Int Int))) : (List (Tp3 (Tp2 Int Int) (Option (Tp2 Int Int)) (Tp2 Int Int)))) fun x530 => guardR (x74.length + x530.length ≤ 1000000) <| guardR ((x74 ++ x530).length + x84.length ≤ 1000000) <| lt (((x74 ++ x530) ++ x84) : (List (Tp3 (Tp2 Int Int) (Option (Tp2 Int Int)) (Tp2 Int Int)))) fun x557 => lt (([x557] : List (List (Tp3 (Tp2 Int Int) (Option (Tp2 Int Int)) (Tp2 Int Int)))) : (List (List (Tp3 (Tp2 Int Int) (Option (Tp2 Int Int)) (Tp2 Int Int))))) fun x563 => guardR (x347.length + x563.length ≤ 1000000) <| (someR x51.b).bind fun x581 => (l_plus x581 x23).bind fun x584 => lt (([(⟨(⟨x51.a, x584, x51.c⟩ : (Tp3 (Tp2 Int Int) (Tp2 Int Int) (Tp2 Int Int))).a, (some ((⟨x51.a, x584, x51.c⟩ : (Tp3 (Tp2 Int Int) (Tp2 Int Int) (Tp2 Int Int))).b)), (⟨x51.a, x584, x51.c⟩ : (Tp3 (Tp2 Int Int) (Tp2 Int Int) (Tp2 Int Int))).c⟩ : (Tp3 (Tp2 Int Int) (Option (Tp2 Int Int)) (Tp2 Int Int)))] : List (Tp3 (Tp2 Int Int) (Option (Tp2 Int Int)) (Tp2 Int Int))) : (List (Tp3 (Tp2 Int Int) (Option (Tp2 Int Int)) (Tp2 Int Int)))) fun x600 => guardR (x74.length + x600.length ≤ 1000000) <| guardR ((x74 ++ x600).length + x84.length ≤ 1000000) <| lt (((x74 ++ x600) ++ x84) : (List (Tp3 (Tp2 Int Int) (Option (Tp2 Int Int)) (Tp2 Int Int)))) fun x627 => (setR (x347 ++ x563) 0 x627).bind fun x628 => (l_plus x51.c x23).bind fun x633 => lt (([(⟨x51.a, x51.b, x633⟩ : (Tp3 (Tp2 Int Int) (Option (Tp2 Int Int)) (Tp2 Int Int)))] : List (Tp3 (Tp2 Int Int) (Option (Tp2 Int Int)) (Tp2 Int Int))) : (List (Tp3 (Tp2 Int Int) (Option (Tp2 Int Int)) (Tp2 Int Int)))) fun x649 => guardR (x74.length + x649.length ≤ 1000000) <| guardR ((x74 ++ x649).length + x84.length ≤ 1000000) <| lt (((x74 ++ x649) ++ x84) : (List (Tp3 (Tp2 Int Int) (Option (Tp2 Int Int)) (Tp2 Int Int)))) fun x676 => lt (([x676] : List (List (Tp3 (Tp2 Int Int) (Option (Tp2 Int Int)) (Tp2 Int Int)))) : (List (List (Tp3 (Tp2 Int Int) (Option (Tp2 Int Int)) (Tp2 Int Int))))) fun x682 => guardR (x628.length + x682.length ≤ 1000000) <| .ok (x628 ++ x682)) : Res ((List (List (Tp3 (Tp2 Int Int) (Option (Tp2 Int Int)) (Tp2 Int Int)))))).bind fun a705 => (ixR a705 x1.1).bind fun x716 => .ok (x716, x150.2))
def sp__law_changed (K : PySem.W.Frag) : Sp := fun vs H Q _ => ∃ (B : Hp) (p_state : Addr) (a_state : (List Int)) (v_edits_here : V) (a_edits_here : (List (Tp3 (Tp2 Int Int) (Option (Tp2 Int Int)) (Tp2 Int Int)))), Ex B H ∧ vs = [.ref p_state, v_edits_here] ∧ Mu K B H p_state (a_state.map enc) ∧ Rep K B v_edits_here (enc a_edits_here) ∧ Post (l_changed a_state a_edits_here) (fun r => RetM K p_state B H (enc r.1) (r.2.map enc) Q) (fun _ => False)
abbrev s__law_changed : Stmt := top 40
theorem sc__law_changed : FnScope ["_law_state", "_law_edits_here", "_law_way", "_law_at", "_law_more", "_law_span", "_law_start", "_law_rate", "_law_ahead", "_law_behind", "_law_some", "_law_half", "_law_middle"] ["_law_state", "_law_edits_here"] (defScope s__law_changed) := ⟨rfl, rfl, rfl, by decide +kernel, rfl, by decide +kernel, by decide +kernel⟩
/-! ### _law_borders -/
def l_borders (a_edits_here : (List (Tp3 (Tp2 Int Int) (Option (Tp2 Int Int)) (Tp2 Int Int)))) : Res (List (Tp2 Int Int)) :=
  (forR (a_edits_here) (([(⟨0, 1⟩ : (Tp2 Int Int))] : List (Tp2 Int Int)) : (List (Tp2 Int Int))) (fun x24 (a23 : (List (Tp2 Int Int))) => (ixR a23 (-1)).bind fun x47 => (l_plus x47 x24.a).bind fun x51 => guardR (a23.length < 1000000) <| .ok (.nx (a23 ++ [x51])))).bind (afterR fun a59 => .ok a59)
def sp__law_borders (K : PySem.W.Frag) : Sp := fun vs H Q _ => ∃ (B : Hp) (v_edits_here : V) (a_edits_here : (List (Tp3 (Tp2 Int Int) (Option (Tp2 Int Int)) (Tp2 Int Int)))), Ex B H ∧ vs = [v_edits_here] ∧ Bor K B H [] v_edits_here (a_edits_here.map enc) ∧ Post (l_borders a_edits_here) (fun r => Ret K [] B H (enc r) Q) (fun _ => False)
abbrev s__law_borders : Stmt := top 41
theorem sc__law_borders : FnScope ["_law_edits_here", "_law_found", "_law_span", "_law_start", "_law_rate"] ["_law_edits_here"] (defScope s__law_borders) := ⟨rfl, rfl, rfl, by decide +kernel, rfl, by decide +kernel, by decide +kernel⟩
/-! ### _law_ranked -/
def l_ranked (a_found : (List (Tp2 Int Int))) (a_moment : (Tp2 Int Int)) : Res (Unit × (List (Tp2 Int Int))) :=
  lt ((a_found.length : Int) : Int) fun x5 => (whileR (x5.toNat + 1) (x5 : Int) (fun (a15 : Int) => (if (decide (0 < a15)) = true then (ixR a_found (a15 - 1)).bind fun x23 => (l_less a_moment x23).bind fun x27 => (if x27 = true then lt ((a15 - 1) : Int) fun x33 => .ok (.nx x33) else .ok (.bk a15)) else .ok (.bk a15)))).bind (afterR fun a34 => ((if (decide (a34 = 0)) = true then .ok true else (ixR a_found (a34 - 1)).bind fun x45 => guardR (okEq (enc x45) (enc a_moment)) <| .ok (!(eqD (enc x45) (enc a_moment)))) : Res Bool).bind fun b49 => (if b49 = true then guardR (a_found.length < 1000000 ∧ 0 ≤ a34 ∧ a34 < 2 ^ 63) <| .ok ((), (insL a_found a34 a_moment)) else .ok ((), a_found)))
def sp__law_ranked (K : PySem.W.Frag) : Sp := fun vs H Q _ => ∃ (B : Hp) (p_found : Addr) (a_found : (List (Tp2 Int Int))) (v_moment : V) (a_moment : (Tp2 Int Int)), Ex B H ∧ vs = [.ref p_found, v_moment] ∧ Mu K B H p_found (a_found.map enc) ∧ Rep K B v_moment (enc a_moment) ∧ Post (l_ranked a_found a_moment) (fun r => RetM K p_found B H (enc r.1) (r.2.map enc) Q) (fun _ => False)
abbrev s__law_ranked : Stmt := top 42
theorem sc__law_ranked : FnScope ["_law_found", "_law_moment", "_law_at"] ["_law_found", "_law_moment"] (defScope s__law_ranked) := ⟨rfl, rfl, rfl, by decide +kernel, rfl, by decide +kernel, by decide +kernel⟩
/-! ### _law_alike -/
def l_alike (a_left : (List (Tp3 (Tp2 Int Int) (Option (Tp2 Int Int)) (Tp2 Int Int)))) (a_right_here : (List (Tp3 (Tp2 Int Int) (Option (Tp2 Int Int)) (Tp2 Int Int)))) : Res Bool :=
  (l_borders a_left).bind fun x7 => (l_borders a_right_here).bind fun x13 => guardR (x7.length + x13.length ≤ 1000000) <| (forR ((x7 ++ x13)) (([] : List (Tp2 Int Int)) : (List (Tp2 Int Int))) (fun x44 (a43 : (List (Tp2 Int Int))) => (l_ranked a43 x44).bind fun x51 => .ok (.nx x51.2))).bind (afterR fun a57 => guardR (-(2 ^ 62) ≤ (((a57.length : Int) - 1) : Int) ∧ (((a57.length : Int) - 1) : Int) < 2 ^ 62) <| (forR (rngI 0 ((a57.length : Int) - 1)) (a57 : (List (Tp2 Int Int))) (fun x75 (a74 : (List (Tp2 Int Int))) => (ixR a74 x75).bind fun x86 => (ixR a74 (x75 + 1)).bind fun x94 => (l_plus x86 x94).bind fun x98 => (l_times x98 (⟨1, 2⟩ : (Tp2 Int Int))).bind fun x109 => guardR (a74.length < 1000000) <| .ok (.nx (a74 ++ [x109])))).bind (afterR fun a117 => (compR (a117) (() : Unit) (fun x129 (a133 : Unit) => (l_led a_left x129).bind fun x146 => (l_led a_right_here x129).bind fun x152 => guardR (okEq (enc x146) (enc x152)) <| (if (!(eqD (enc x146) (enc x152))) = true then .ok (some x129, ()) else .ok (none, ())))).bind <| un2 fun acc132 a133 => guardR (okEq (enc acc132) (enc ([] : List D))) <| .ok (eqD (enc acc132) (enc ([] : List D)))))
def sp__law_alike (K : PySem.W.Frag) : Sp := fun vs H Q _ => ∃ (B : Hp) (v_left : V) (a_left : (List (Tp3 (Tp2 Int Int) (Option (Tp2 Int Int)) (Tp2 Int Int)))) (v_right_here : V) (a_right_here : (List (Tp3 (Tp2 Int Int) (Option (Tp2 Int Int)) (Tp2 Int Int)))), Ex B H ∧ vs = [v_left, v_right_here] ∧ Rep K B v_left (enc a_left) ∧ Rep K B v_right_here (enc a_right_here) ∧ Post (l_alike a_left a_right_here) (fun r => Ret K [] B H (enc r) Q) (fun _ => False)
abbrev s__law_alike : Stmt := top 43
theorem sc__law_alike : FnScope ["_law_left", "_law_right_here", "_law_marks", "_law_moment", "_law_k", "_law_t"] ["_law_left", "_law_right_here"] (defScope s__law_alike) := ⟨rfl, rfl, rfl, by decide +kernel, rfl, by decide +kernel, by decide +kernel⟩
/-! ### _law_right -/
def l_right (a_left : (List (Tp3 (Tp2 Int Int) (Option (Tp2 Int Int)) (Tp2 Int Int)))) (a_right_here : (List (Tp3 (Tp2 Int Int) (Option (Tp2 Int Int)) (Tp2 Int Int)))) : Res Bool :=
  (ixR ([a_left, a_right_here] : List (List (Tp3 (Tp2 Int Int) (Option (Tp2 Int Int)) (Tp2 Int Int)))) 0).bind fun x28 => (ixR ([a_left, a_right_here] : List (List (Tp3 (Tp2 Int Int) (Option (Tp2 Int Int)) (Tp2 Int Int)))) 1).bind fun x36 => ((m_parted x28 x36).noErr).bind fun x40 => guardR (okEq (enc ([a_left, a_right_here] : List (List (Tp3 (Tp2 Int Int) (Option (Tp2 Int Int)) (Tp2 Int Int))))) (enc ([a_left, a_right_here] : List (List (Tp3 (Tp2 Int Int) (Option (Tp2 Int Int)) (Tp2 Int Int)))))) <| (if (!(eqD (enc ([a_left, a_right_here] : List (List (Tp3 (Tp2 Int Int) (Option (Tp2 Int Int)) (Tp2 Int Int))))) (enc ([a_left, a_right_here] : List (List (Tp3 (Tp2 Int Int) (Option (Tp2 Int Int)) (Tp2 Int Int))))))) = true then .ok false else (if (isNonD (enc x40)) = true then (l_alike a_left a_right_here).bind fun x51 => .ok x51 else (if (isA "tuple" (enc x40)) = true then (someR x40).bind fun x57 => (if (!decide (2 = 2)) = true then .ok false else (someR x40).bind fun x64 => (if (isA "bool" (enc (x64.a : Int))) = true then .ok false else (someR x40).bind fun x73 => (if (decide (x73.a < 0)) = true then .ok false else (someR x40).bind fun x82 => (if (decide (x82.b < 1)) = true then .ok false else (someR x40).bind fun x91 => (l_led a_left x91).bind fun x94 => (someR x40).bind fun x100 => (l_led a_right_here x100).bind fun x103 => guardR (okEq (enc x94) (enc x103)) <| .ok (!(eqD (enc x94) (enc x103))))))) else .ok false)))
def sp__law_right (K : PySem.W.Frag) : Sp := fun vs H Q _ => ∃ (B : Hp) (v_left : V) (a_left : (List (Tp3 (Tp2 Int Int) (Option (Tp2 Int Int)) (Tp2 Int Int)))) (v_right_here : V) (a_right_here : (List (Tp3 (Tp2 Int Int) (Option (Tp2 Int Int)) (Tp2 Int Int)))), Ex B H ∧ vs = [v_left, v_right_here] ∧ Rep K B v_left (enc a_left) ∧ Rep K B v_right_here (enc a_right_here) ∧ Post (l_right a_left a_right_here) (fun r => Ret K [] B H (enc r) Q) (fun _ => False)
abbrev s__law_right : Stmt := top 44
theorem sc__law_right : FnScope ["_law_left", "_law_right_here", "_law_handed", "_law_found"] ["_law_left", "_law_right_here"] (defScope s__law_right) := ⟨rfl, rfl, rfl, by decide +kernel, rfl, by decide +kernel, by decide +kernel⟩
/-! ### law -/
def m_law (a_script : (List Int)) : Res Bool :=
  (l_cell_at a_script 0).bind fun x1 => (l_edits ([x1] : List Int) 7).bind fun x13 => (l_right x13.1 x13.1).bind fun x19 => (if x19 = true then (l_right x13.1 ([] : List (Tp3 (Tp2 Int Int) (Option (Tp2 Int Int)) (Tp2 Int Int)))).bind fun x30 => (if x30 = true then guardR (([1] : List Int).length + (cutL a_script (some 1) (some 6)).length ≤ 1000000) <| (forR ((([1] : List Int) ++ (cutL a_script (some 1) (some 6)))) (() : Unit) (fun x75 (a74 : Unit) => (l_changed ([x75] : List Int) x13.1).bind fun x91 => (l_right x13.1 x91.1).bind fun x97 => (if x97 = true then (l_right x91.1 x13.1).bind fun x103 => (if x103 = true then .ok (.nx ()) else .ok (.rt false)) else .ok (.rt false)))).bind (afterR fun a109 => ((m_parted x13.1 x13.1).noErr).bind fun x116 => .ok (isNonD (enc x116))) else .ok false) else .ok false)
def sp_law (K : PySem.W.Frag) : Sp := fun vs H Q _ => ∃ (B : Hp) (v_script : V) (a_script : (List Int)), Ex B H ∧ vs = [v_script] ∧ Bor K B H [] v_script (a_script.map enc) ∧ Post (m_law a_script) (fun r => Ret K [] B H (enc r) Q) (fun _ => False)
abbrev s_law : Stmt := top 45
theorem sc_law : FnScope ["_law_script", "_law_edits_here", "_law_cell", "_law_state", "_law_right_here"] ["_law_script"] (defScope s_law) := ⟨rfl, rfl, rfl, by decide +kernel, rfl, by decide +kernel, by decide +kernel⟩
section
variable {Pr : Program} {wo : World} {K : PySem.W.Frag} {mg : Str → Option Value} {base : Heap}
theorem ok_divisor {f : Addr} {fd : FuncData}  (F : Fun K "divisor" "divisor" s_divisor f fd) (bI_abs : mg "abs" = none) : FnOk Pr wo K mg base CX0 1 f fd ["one", "other"] (sp_divisor K) := by
  refine F.ok sc_divisor (fun vs H Q E h => ?_) (fun cdv A outer s H0 vs Q E hr h => ?_)
  · obtain ⟨_, _, _, _, rfl, _⟩ := h; rfl
  · obtain ⟨B0, a_one, a_other, w, rfl, P⟩ := h
    have w0 := w
    have hu := hu_of hr
    have hu64 := hu64_of hr
    refine ⟨_, (pss_cons (ps_set (i := 0) sc_divisor.nd rfl (by first | exact Or.inl rfl | exact Or.inr rfl) (pe_callB cr_abs (by rfl) bI_abs PyProof.Rows.boot_abs (pa_cons (pv 0) pa_nil)))
      (pss_cons (ps_set (i := 1) sc_divisor.nd rfl (by first | exact Or.inl rfl | exact Or.inr rfl) (pe_callB cr_abs (by rfl) bI_abs PyProof.Rows.boot_abs (pa_cons (pv 1) pa_nil)))
      (pss_cons (ps_while PassesOwn.never (pt_cmpR op_gt (pv 1) pe_int (nomark _)) (pss_one (ps_par rfl sc_divisor.nd (i := 0) (j := 1) rfl rfl (by decide) rfl rfl (pa_cons (pv 1) (pa_cons (pe_op op_mod (pv 0) (pv 1)) pa_nil)) rfl)))
      (pss_one (ps_ret (pv 0)))))), ?_⟩
    unfold m_divisor at P
    have st := Stp.refl (W := []) w
    refine h_set ?_
    refine h_cb ?_
    refine h_cons ?_
    refine h_var rfl ?_
    refine h_nil ?_
    refine h_abs ?_
    replace P := P.lt
    generalize hx : (absI a_one) = x1 at P ⊢
    refine h_set ?_
    refine h_cb ?_
    refine h_cons ?_
    refine h_var rfl ?_
    refine h_nil ?_
    refine h_abs ?_
    replace P := P.lt
    generalize hx : (absI a_other) = x2 at P ⊢
    refine h_seq ?_
    have wj4 := w
    have sj3 := Stp.refl (W := []) w
    refine h_while P (fun (a : Int × Int) σ' H' => ∃ (B' : Hp), Stp [] B0 H0 B' H' ∧ σ' = [some (.int a.1), some (.int a.2)]) ⟨_, sj3, rfl⟩ ?_ ?_
    · rintro N5 C6 T7 a12 _ H14 ⟨B13, s15, rfl⟩ kn8 kk9 kr10 kb11 P
      replace st := st.go s15 go0
      replace w := s15.ok
      have sj3 := s15
      refine h_test ?_
      refine h_op ?_
      refine h_var rfl ?_
      refine h_c ?_
      refine h_I0 ?_
      refine h_bl ?_
      refine h_ite (fun c1 => ?_) (fun c1 => ?_)
      · replace P := P.iteT c1
        refine ⟨N5, kn8, ?_⟩
        refine h_par ?_
        refine h_cons ?_
        refine h_var rfl ?_
        refine h_cons ?_
        refine h_op ?_
        refine h_var rfl ?_
        refine h_var rfl ?_
        obtain ⟨gd, P⟩ := P.guard
        refine h_I gd ?_
        refine h_nil ?_
        refine h_two ?_
        replace P := P.lt
        generalize hx : (a12.1 % a12.2) = x16 at P ⊢
        refine h_nx ?_
        exact kk9 (a12.2, x16) _ _ ⟨_, sj3, rfl⟩ P.ok
      · replace P := P.iteF c1
        exact kb11 (a12.1, a12.2) _ _ ⟨_, sj3, rfl⟩ P.ok
    · rintro a17 _ H19 ⟨B18, s20, rfl⟩ P
      replace st := st.go s20 go0
      replace w := s20.ok
      refine h_nx ?_
      refine h_ret ?_
      refine h_var rfl ?_
      exact P.ok _ _ _ st (Rep.int _)
theorem ok_is_number {f : Addr} {fd : FuncData}  (F : Fun K "is_number" "is_number" s_is_number f fd) (bI_isinstance : mg "isinstance" = none) (bI_int : mg "int" = none) (bI_bool : mg "bool" = none) : FnOk Pr wo K mg base CX0 1 f fd ["thing"] (sp_is_number K) := by
  refine F.ok sc_is_number (fun vs H Q E h => ?_) (fun cdv A outer s H0 vs Q E hr h => ?_)
  · obtain ⟨_, _, _, _, rfl, _⟩ := h; rfl
  · obtain ⟨B0, v_thing, a_thing, w, rfl, r_thing, P⟩ := h
    have w0 := w
    have hu := hu_of hr
    have hu64 := hu64_of hr
    refine ⟨_, (pss_one (ps_ret (pe_and (pe_callB (r := rIsi K) call_isi (by rfl) bI_isinstance PyProof.Rows.boot_isinstance (pa_cons (pv 0) (pa_cons (pe_bltn (v := .ty "int") (by rfl) bI_int Y.boot_int rfl) pa_nil))) (pe_one (pe_not (pe_callB (r := rIsi K) call_isi (by rfl) bI_isinstance PyProof.Rows.boot_isinstance (pa_cons (pv 0) (pa_cons (pe_bltn (v := .ty "bool") (by rfl) bI_bool Y.boot_bool rfl) pa_nil)))))))), ?_⟩
    unfold m_is_number at P
    have st := Stp.refl (W := []) w
    refine h_ret ?_
    refine h_and ?_
    refine h_cb ?_
    refine h_cons ?_
    refine h_var rfl ?_
    refine h_cons ?_
    refine h_c ?_
    refine h_nil ?_
    refine isi (t := "int") w (r_thing.mono st.ex) ?_
    refine h_bl ?_
    refine h_ite (fun c1 => ?_) (fun c1 => ?_)
    · replace P := P.iteT c1
      refine h_not ?_
      refine h_cb ?_
      refine h_cons ?_
      refine h_var rfl ?_
      refine h_cons ?_
      refine h_c ?_
      refine h_nil ?_
      refine isi (t := "bool") w (r_thing.mono st.ex) ?_
      refine h_bl ?_
      exact P.ok _ _ _ st (Rep.bl _)
    · replace P := P.iteF c1
      exact P.ok _ _ _ st (Rep.bl _)
theorem ok_fraction {f : Addr} {fd : FuncData} {tk_fraction_bottom : Tok} (F : FunV K "fraction" "fraction" s_fraction [.int 1 tk_fraction_bottom] f fd) {C_NoFraction : Addr} (T_NoFraction : ExcR K mg "NoFraction" C_NoFraction) {f_divisor : Addr} {d_divisor : FuncData} (g_divisor : mg "divisor" = some (.ref f_divisor)) (k_divisor : PySem.W.keepIn K (.ref f_divisor) = true) (b_divisor : L2.Binds K d_divisor ["one", "other"] []) (G_divisor : FnOk Pr wo K mg base CX0 1 f_divisor d_divisor ["one", "other"] (sp_divisor K)) {f_is_number : Addr} {d_is_number : FuncData} (g_is_number : mg "is_number" = some (.ref f_is_number)) (k_is_number : PySem.W.keepIn K (.ref f_is_number) = true) (b_is_number : L2.Binds K d_is_number ["thing"] []) (G_is_number : FnOk Pr wo K mg base CX0 1 f_is_number d_is_number ["thing"] (sp_is_number K)) : FnOk Pr wo K mg base (L2.CX Pr wo) 2 f fd ["top", "bottom"] (sp_fraction K mg) := by
  refine F.okX sc_fraction (fun vs H Q E h => ?_) (fun cdv A outer s H0 vs Q E hr h => ?_)
  · obtain ⟨_, _, _, _, _, _, rfl, _⟩ := h; rfl
  · obtain ⟨B0, v_top, a_top, v_bottom, a_bottom, w, rfl, r_top, r_bottom, P⟩ := h
    have w0 := w
    have hu := hu_of hr
    have hu64 := hu64_of hr
    have hr1 : Room 1 _ := hr.mono (by decide)
    refine ⟨_, (pss_cons (ps_if (PW.pt (pw_or (pt_not (pt_val (pe_call G_is_number hr1 rfl g_is_number k_is_number b_is_number .nil pass0 (pa_cons (pv 0) pa_nil)))) (pw_or (pt_not (pt_val (pe_call G_is_number hr1 rfl g_is_number k_is_number b_is_number .nil pass0 (pa_cons (pv 1) pa_nil)))) (pw_or1 (pt_cmpR (r := rEqD K) (op_eqD hu64) (pv 1) pe_int (nomark _)))))) (pss_one (ps_raise rfl (takes_of rfl rfl rfl rfl) (pmk_own PySem.F.excBase_ValueError T_NoFraction.ex T_NoFraction.g T_NoFraction.kp (raises_own T_NoFraction.ec.hs T_NoFraction.ty) rfl))) pss_nil)
      (pss_cons (ps_set (i := 2) sc_fraction.nd rfl (by first | exact Or.inl rfl | exact Or.inr rfl) (pe_call G_divisor hr1 rfl g_divisor k_divisor b_divisor .nil pass0 (pa_cons (pv 0) (pa_cons (pv 1) pa_nil))))
      (pss_cons (ps_if (pt_cmpR op_lt (pv 1) pe_int (nomark _)) (pss_one (ps_set (i := 2) sc_fraction.nd rfl (by first | exact Or.inl rfl | exact Or.inr rfl) (pe_un un_neg (pv 2)))) pss_nil)
      (pss_one (ps_ret (pe_tup (pa_cons (pe_op op_fdivZ (pv 0) (pv 2)) (pa_cons (pe_op op_fdivZ (pv 1) (pv 2)) pa_nil)))))))), ?_⟩
    unfold m_fraction at P
    have st := Stp.refl (W := []) w
    refine h_seq <| h_if ?_
    refine h_tor ?_
    refine h_tnot ?_
    refine h_tB ?_
    refine h_call ?_
    refine h_cons ?_
    refine h_var rfl ?_
    refine h_nil ?_
    refine ⟨B0, v_top, a_top, w, rfl, (r_top.mono st.ex), (P.bind.noErr).mono (fun x1 P => ?_) (fun _ z => z.elim)⟩
    refine fun v5 B2 H3 s4 r6 => ?_
    replace st := st.go s4 go0
    replace w := s4.ok
    cases r6
    refine h_bl ?_
    refine h_iteN (fun c1 => ?_) (fun c1 => ?_)
    · replace P := P.iteF c1
      refine h_iteT ?_
      exact P.err _ _ _ T_NoFraction.g st
    · replace P := P.iteT c1
      refine h_tor ?_
      refine h_tnot ?_
      refine h_tB ?_
      refine h_call ?_
      refine h_cons ?_
      refine h_var rfl ?_
      refine h_nil ?_
      refine ⟨B2, v_bottom, a_bottom, w, rfl, (r_bottom.mono st.ex), (P.bind.noErr).mono (fun x7 P => ?_) (fun _ z => z.elim)⟩
      refine fun v11 B8 H9 s10 r12 => ?_
      replace st := st.go s10 go0
      replace w := s10.ok
      cases r12
      refine h_bl ?_
      refine h_iteN (fun c1 => ?_) (fun c1 => ?_)
      · replace P := P.iteF c1
        refine h_iteT ?_
        exact P.err _ _ _ T_NoFraction.g st
      · replace P := P.iteT c1
        refine h_test ?_
        refine h_op ?_
        refine h_var rfl ?_
        refine h_c ?_
        obtain ⟨gd, P⟩ := P.guard
        refine h_eqD (d := a_bottom) (e := (enc (0 : Int))) w (r_bottom.mono st.ex) (Rep.int _) gd ?_
        refine h_bl ?_
        refine h_ite (fun c1 => ?_) (fun c1 => ?_)
        · replace P := P.iteT c1
          exact P.err _ _ _ T_NoFraction.g st
        · replace P := P.iteF c1
          refine h_next ?_
          refine h_nx ?_
          refine h_set ?_
          refine h_call ?_
          refine h_cons ?_
          refine h_var rfl ?_
          refine h_cons ?_
          refine h_var rfl ?_
          refine h_nil ?_
          obtain ⟨i13, hi14, P⟩ := P.asI
          have rc15 := (r_top.mono st.ex)
          rw [hi14] at rc15
          cases rc15
          obtain ⟨i16, hi17, P⟩ := P.asI
          have rc18 := (r_bottom.mono st.ex)
          rw [hi17] at rc18
          cases rc18
          refine ⟨B8, i13, i16, w, rfl, (P.bind.noErr).mono (fun x19 P => ?_) (fun _ z => z.elim)⟩
          refine fun v23 B20 H21 s22 r24 => ?_
          replace st := st.go s22 go0
          replace w := s22.ok
          cases r24
          have wj26 := w
          have sj25 := Stp.refl (W := []) w
          refine h_joinS P (fun (a : Int) σ' H' => ∃ (B' : Hp), Stp [] B20 H21 B' H' ∧ σ' = [some (.int i13), some (.int i16), some (.int a)]) (fun N kk27 P => h_if ?_) ?_
          · skip
            refine h_test ?_
            refine h_op ?_
            refine h_var rfl ?_
            refine h_c ?_
            refine h_I0 ?_
            refine h_bl ?_
            refine h_ite (fun c1 => ?_) (fun c1 => ?_)
            · replace P := P.iteT c1
              refine h_set1 ?_
              refine h_un ?_
              refine h_var rfl ?_
              refine h_U ?_
              replace P := P.lt
              generalize hx : (-x19) = x28 at P ⊢
              refine h_nx ?_
              exact kk27 x28 _ _ ⟨_, sj25, rfl⟩ P.ok
            · replace P := P.iteF c1
              refine h_next ?_
              refine h_nx ?_
              exact kk27 x19 _ _ ⟨_, sj25, rfl⟩ P.ok
          rintro a29 _ H31 ⟨B30, s32, rfl⟩ P
          replace st := st.go s32 go0
          replace w := s32.ok
          refine h_ret ?_
          refine h_tup ?_
          refine h_cons ?_
          refine h_op ?_
          refine h_var rfl ?_
          refine h_var rfl ?_
          obtain ⟨gd, P⟩ := P.guard
          refine h_I gd ?_
          refine h_cons ?_
          refine h_op ?_
          refine h_var rfl ?_
          refine h_var rfl ?_
          obtain ⟨gd, P⟩ := P.guard
          refine h_I gd ?_
          refine h_nil ?_
          refine h_newT w (K := K) (.cons (Rep.int _) (.cons (Rep.int _) .nil)) (fun p33 B34 H35 s36 r37 => ?_) (by show 2 ≤ sizeLine; decide)
          replace st := st.go s36 go0
          replace w := s36.ok
          replace r37 : Rep K B34 (.ref p33) (enc (⟨(Int.fdiv i13 a29), (Int.fdiv i16 a29)⟩ : (Tp2 Int Int))) := r37
          exact P.ok _ _ _ st r37
theorem ok_is_fraction {f : Addr} {fd : FuncData}  (F : Fun K "is_fraction" "is_fraction" s_is_fraction f fd) {f_divisor : Addr} {d_divisor : FuncData} (g_divisor : mg "divisor" = some (.ref f_divisor)) (k_divisor : PySem.W.keepIn K (.ref f_divisor) = true) (b_divisor : L2.Binds K d_divisor ["one", "other"] []) (G_divisor : FnOk Pr wo K mg base CX0 1 f_divisor d_divisor ["one", "other"] (sp_divisor K)) {f_is_number : Addr} {d_is_number : FuncData} (g_is_number : mg "is_number" = some (.ref f_is_number)) (k_is_number : PySem.W.keepIn K (.ref f_is_number) = true) (b_is_number : L2.Binds K d_is_number ["thing"] []) (G_is_number : FnOk Pr wo K mg base CX0 1 f_is_number d_is_number ["thing"] (sp_is_number K)) (bI_isinstance : mg "isinstance" = none) (bI_tuple : mg "tuple" = none) (bI_len : mg "len" = none) : FnOk Pr wo K mg base CX0 2 f fd ["thing"] (sp_is_fraction K) := by
  refine F.ok sc_is_fraction (fun vs H Q E h => ?_) (fun cdv A outer s H0 vs Q E hr h => ?_)
  · obtain ⟨_, _, _, _, rfl, _⟩ := h; rfl
  · obtain ⟨B0, v_thing, a_thing, w, rfl, r_thing, P⟩ := h
    have w0 := w
    have hu := hu_of hr
    have hu64 := hu64_of hr
    have hr1 : Room 1 _ := hr.mono (by decide)
    refine ⟨_, (pss_cons (ps_if (PW.pt (pw_or (pt_not (pt_val (pe_callB (r := rIsi K) call_isi (by rfl) bI_isinstance PyProof.Rows.boot_isinstance (pa_cons (pv 0) (pa_cons (pe_bltn (v := .ty "tuple") (by rfl) bI_tuple Y.boot_tuple rfl) pa_nil))))) (pw_or1 (pt_cmpR op_ne (pe_callB (r := rLenY K) cr_len (by rfl) bI_len PySem.boot_len (pa_cons (pv 0) pa_nil)) pe_int (nomark _))))) (pss_one (ps_ret pe_bl)) pss_nil)
      (pss_cons (ps_asg (pv 0) (pg_tupK (K := K) (n := 2) rfl rfl (pgs_cons (pg_name (i := 1) sc_is_fraction.nd rfl (by first | exact Or.inl rfl | exact Or.inr rfl)) (pgs_cons (pg_name (i := 2) sc_is_fraction.nd rfl (by first | exact Or.inl rfl | exact Or.inr rfl)) pgs_nil))))
      (pss_cons (ps_if (PW.pt (pw_or (pt_not (pt_val (pe_call G_is_number hr1 rfl g_is_number k_is_number b_is_number .nil pass0 (pa_cons (pv 1) pa_nil)))) (pw_or (pt_not (pt_val (pe_call G_is_number hr1 rfl g_is_number k_is_number b_is_number .nil pass0 (pa_cons (pv 2) pa_nil)))) (pw_or1 (pt_cmpR op_lt (pv 2) pe_int (nomark _)))))) (pss_one (ps_ret pe_bl)) pss_nil)
      (pss_one (ps_ret (pe_cmpR op_eq (pe_call G_divisor hr1 rfl g_divisor k_divisor b_divisor .nil pass0 (pa_cons (pv 1) (pa_cons (pv 2) pa_nil))) pe_int (nomark _))))))), ?_⟩
    unfold m_is_fraction at P
    have st := Stp.refl (W := []) w
    refine h_seq <| h_if ?_
    refine h_tor ?_
    refine h_tnot ?_
    refine h_tB ?_
    refine h_cb ?_
    refine h_cons ?_
    refine h_var rfl ?_
    refine h_cons ?_
    refine h_c ?_
    refine h_nil ?_
    refine isi (t := "tuple") w (r_thing.mono st.ex) ?_
    refine h_bl ?_
    refine h_iteN (fun c1 => ?_) (fun c1 => ?_)
    · replace P := P.iteF c1
      refine h_iteT ?_
      refine h_ret ?_
      refine h_c ?_
      exact P.ok _ _ _ st (Rep.bl _)
    · replace P := P.iteT c1
      refine h_test ?_
      refine h_op ?_
      refine h_cb ?_
      refine h_cons ?_
      refine h_var rfl ?_
      refine h_nil ?_
      obtain ⟨l1, hl2, P⟩ := P.asT
      have rc3 := (r_thing.mono st.ex)
      rw [hl2] at rc3
      obtain ⟨p4, xs5, rfl, hs6, hr7⟩ := Rep.st w rc3
      refine h_lenTl hs6 hr7 ?_
      refine h_c ?_
      refine h_neI ?_
      refine h_bl ?_
      refine h_ite (fun c1 => ?_) (fun c1 => ?_)
      · replace P := P.iteT c1
        refine h_ret ?_
        refine h_c ?_
        exact P.ok _ _ _ st (Rep.bl _)
      · replace P := P.iteF c1
        refine h_next ?_
        refine h_nx ?_
        refine h_seq ?_
        refine h_asg ?_
        refine h_var rfl ?_
        obtain ⟨l8, hl9, P⟩ := P.asT
        have rc10 := (r_thing.mono st.ex)
        rw [hl9] at rc10
        obtain ⟨p11, xs12, hv, hs13, hr14⟩ := Rep.st w rc10
        cases hv
        obtain ⟨gd, P⟩ := P.guard
        refine h_tupG hs13 (by rw [hr14.length, List.length_map]; exact gd) ?_
        obtain ⟨x16, hx17, P⟩ := P.ix
        obtain ⟨u18, huu18, r19⟩ := RepL.atE hr14 hx17
        obtain ⟨x20, hx21, P⟩ := P.ix
        obtain ⟨u22, huu22, r23⟩ := RepL.atE hr14 hx21
        obtain rfl : xs12 = [u18, u22] := tup2 (by rw [hr14.length, List.length_map]; exact gd) huu18 huu22
        refine h_gcons ?_
        refine h_gname ?_
        refine h_gcons ?_
        refine h_gname ?_
        refine h_gnil ?_
        refine h_nx ?_
        refine h_seq <| h_if ?_
        refine h_tor ?_
        refine h_tnot ?_
        refine h_tB ?_
        refine h_call ?_
        refine h_cons ?_
        refine h_var rfl ?_
        refine h_nil ?_
        refine ⟨B0, u18, x16, w, rfl, r19, (P.bind).mono (fun x24 P => ?_) (fun _ z => z)⟩
        refine fun v28 B25 H26 s27 r29 => ?_
        replace r19 := r19.mono s27.ex
        replace r23 := r23.mono s27.ex
        replace st := st.go s27 go0
        replace w := s27.ok
        cases r29
        refine h_bl ?_
        refine h_iteN (fun c1 => ?_) (fun c1 => ?_)
        · replace P := P.iteF c1
          refine h_iteT ?_
          refine h_ret ?_
          refine h_c ?_
          exact P.ok _ _ _ st (Rep.bl _)
        · replace P := P.iteT c1
          refine h_tor ?_
          refine h_tnot ?_
          refine h_tB ?_
          refine h_call ?_
          refine h_cons ?_
          refine h_var rfl ?_
          refine h_nil ?_
          refine ⟨B25, u22, x20, w, rfl, r23, (P.bind).mono (fun x30 P => ?_) (fun _ z => z)⟩
          refine fun v34 B31 H32 s33 r35 => ?_
          replace r19 := r19.mono s33.ex
          replace r23 := r23.mono s33.ex
          replace st := st.go s33 go0
          replace w := s33.ok
          cases r35
          refine h_bl ?_
          refine h_iteN (fun c1 => ?_) (fun c1 => ?_)
          · replace P := P.iteF c1
            refine h_iteT ?_
            refine h_ret ?_
            refine h_c ?_
            exact P.ok _ _ _ st (Rep.bl _)
          · replace P := P.iteT c1
            refine h_test ?_
            refine h_op ?_
            refine h_var rfl ?_
            refine h_c ?_
            obtain ⟨i36, hi37, P⟩ := P.asI
            have rc38 := r23
            rw [hi37] at rc38
            cases rc38
            refine h_I0 ?_
            refine h_bl ?_
            refine h_ite (fun c1 => ?_) (fun c1 => ?_)
            · replace P := P.iteT c1
              refine h_ret ?_
              refine h_c ?_
              exact P.ok _ _ _ st (Rep.bl _)
            · replace P := P.iteF c1
              refine h_next ?_
              refine h_nx ?_
              refine h_ret ?_
              refine h_op ?_
              refine h_call ?_
              refine h_cons ?_
              refine h_var rfl ?_
              refine h_cons ?_
              refine h_var rfl ?_
              refine h_nil ?_
              obtain ⟨i39, hi40, P⟩ := P.asI
              have rc41 := r19
              rw [hi40] at rc41
              cases rc41
              refine ⟨B31, i39, i36, w, rfl, (P.bind).mono (fun x42 P => ?_) (fun _ z => z)⟩
              refine fun v46 B43 H44 s45 r47 => ?_
              replace r19 := r19.mono s45.ex
              replace r23 := r23.mono s45.ex
              replace st := st.go s45 go0
              replace w := s45.ok
              cases r47
              refine h_c ?_
              refine h_eqI ?_
              exact P.ok _ _ _ st (Rep.bl _)
theorem ok_is_moment {f : Addr} {fd : FuncData}  (F : Fun K "is_moment" "is_moment" s_is_moment f fd) {f_is_fraction : Addr} {d_is_fraction : FuncData} (g_is_fraction : mg "is_fraction" = some (.ref f_is_fraction)) (k_is_fraction : PySem.W.keepIn K (.ref f_is_fraction) = true) (b_is_fraction : L2.Binds K d_is_fraction ["thing"] []) (G_is_fraction : FnOk Pr wo K mg base CX0 2 f_is_fraction d_is_fraction ["thing"] (sp_is_fraction K)) : FnOk Pr wo K mg base CX0 3 f fd ["thing"] (sp_is_moment K) := by
  refine F.ok sc_is_moment (fun vs H Q E h => ?_) (fun cdv A outer s H0 vs Q E hr h => ?_)
  · obtain ⟨_, _, _, _, rfl, _⟩ := h; rfl
  · obtain ⟨B0, v_thing, a_thing, w, rfl, r_thing, P⟩ := h
    have w0 := w
    have hu := hu_of hr
    have hu64 := hu64_of hr
    have hr2 : Room 2 _ := hr.mono (by decide)
    refine ⟨_, (pss_one (ps_ret (pe_and (pe_call G_is_fraction hr2 rfl g_is_fraction k_is_fraction b_is_fraction .nil pass0 (pa_cons (pv 0) pa_nil)) (pe_one (pe_cmpR op_ge (pe_ix (r := rIxT K) ix_tup (pv 0) pe_int (fun _ _ => rfl)) pe_int (nomark _)))))), ?_⟩
    unfold m_is_moment at P
    have st := Stp.refl (W := []) w
    refine h_ret ?_
    refine h_and ?_
    refine h_call ?_
    refine h_cons ?_
    refine h_var rfl ?_
    refine h_nil ?_
    refine ⟨B0, v_thing, a_thing, w, rfl, (r_thing.mono st.ex), (P.bind).mono (fun x1 P => ?_) (fun _ z => z)⟩
    refine fun v5 B2 H3 s4 r6 => ?_
    replace st := st.go s4 go0
    replace w := s4.ok
    cases r6
    refine h_bl ?_
    refine h_ite (fun c1 => ?_) (fun c1 => ?_)
    · replace P := P.iteT c1
      refine h_op ?_
      refine h_op ?_
      refine h_var rfl ?_
      refine h_c ?_
      obtain ⟨l7, hl8, P⟩ := P.asT
      have rc9 := (r_thing.mono st.ex)
      rw [hl8] at rc9
      obtain ⟨p10, xs11, rfl, hs12, hr13⟩ := Rep.st w rc9
      obtain ⟨x14, hx15, P⟩ := P.ix
      obtain ⟨u16, hu, r17⟩ := RepL.atE hr13 hx15
      refine h_ixT hs12 hu ?_
      refine h_c ?_
      obtain ⟨i18, hi19, P⟩ := P.asI
      have rc20 := r17
      rw [hi19] at rc20
      cases rc20
      refine h_I0 ?_
      exact P.ok _ _ _ st (Rep.bl _)
    · replace P := P.iteF c1
      exact P.ok _ _ _ st (Rep.bl _)
theorem ok_plus {f : Addr} {fd : FuncData}  (F : Fun K "plus" "plus" s_plus f fd) {f_fraction : Addr} {d_fraction : FuncData} (g_fraction : mg "fraction" = some (.ref f_fraction)) (k_fraction : PySem.W.keepIn K (.ref f_fraction) = true) (b_fraction : L2.Binds K d_fraction ["top", "bottom"] []) (G_fraction : FnOk Pr wo K mg base (L2.CX Pr wo) 2 f_fraction d_fraction ["top", "bottom"] (sp_fraction K mg)) : FnOk Pr wo K mg base (L2.CX Pr wo) 3 f fd ["one", "other"] (sp_plus K mg) := by
  refine F.okX sc_plus (fun vs H Q E h => ?_) (fun cdv A outer s H0 vs Q E hr h => ?_)
  · obtain ⟨_, _, _, _, _, _, rfl, _⟩ := h; rfl
  · obtain ⟨B0, v_one, a_one, v_other, a_other, w, rfl, r_one, r_other, P⟩ := h
    have w0 := w
    have hu := hu_of hr
    have hu64 := hu64_of hr
    have hr2 : Room 2 _ := hr.mono (by decide)
    refine ⟨_, (pss_one (ps_ret (pe_callS G_fraction hr2 rfl g_fraction k_fraction b_fraction (fun σ => passAt (takes_of rfl rfl rfl rfl) σ) (pa_cons (pe_op op_add (pe_op op_mulW (pe_ix (r := rIxT K) ix_tup (pv 0) pe_int (fun _ _ => rfl)) (pe_ix (r := rIxT K) ix_tup (pv 1) pe_int (fun _ _ => rfl))) (pe_op op_mulW (pe_ix (r := rIxT K) ix_tup (pv 1) pe_int (fun _ _ => rfl)) (pe_ix (r := rIxT K) ix_tup (pv 0) pe_int (fun _ _ => rfl)))) (pa_cons (pe_op op_mulW (pe_ix (r := rIxT K) ix_tup (pv 0) pe_int (fun _ _ => rfl)) (pe_ix (r := rIxT K) ix_tup (pv 1) pe_int (fun _ _ => rfl))) pa_nil))))), ?_⟩
    unfold m_plus at P
    have st := Stp.refl (W := []) w
    refine h_ret ?_
    refine h_callS ?_
    refine h_cons ?_
    refine h_op ?_
    refine h_op ?_
    refine h_op ?_
    refine h_var rfl ?_
    refine h_c ?_
    obtain ⟨p1, xs2, rfl, hs3, hr4⟩ := Rep.st w (r_one.mono st.ex)
    obtain ⟨u5, hu, r6⟩ := RepL.at hr4 (i := 0) rfl
    refine h_ixT hs3 hu ?_
    cases r6
    refine h_op ?_
    refine h_var rfl ?_
    refine h_c ?_
    obtain ⟨p7, xs8, rfl, hs9, hr10⟩ := Rep.st w (r_other.mono st.ex)
    obtain ⟨u11, hu, r12⟩ := RepL.at hr10 (i := 1) rfl
    refine h_ixT hs9 hu ?_
    cases r12
    obtain ⟨gd, P⟩ := P.guard
    refine h_I gd ?_
    refine h_op ?_
    refine h_op ?_
    refine h_var rfl ?_
    refine h_c ?_
    obtain ⟨p13, xs14, hv, hs15, hr16⟩ := Rep.st w (r_other.mono st.ex)
    cases hv
    obtain ⟨u17, hu, r18⟩ := RepL.at hr16 (i := 0) rfl
    refine h_ixT hs15 hu ?_
    cases r18
    refine h_op ?_
    refine h_var rfl ?_
    refine h_c ?_
    obtain ⟨p19, xs20, hv, hs21, hr22⟩ := Rep.st w (r_one.mono st.ex)
    cases hv
    obtain ⟨u23, hu, r24⟩ := RepL.at hr22 (i := 1) rfl
    refine h_ixT hs21 hu ?_
    cases r24
    obtain ⟨gd, P⟩ := P.guard
    refine h_I gd ?_
    refine h_I0 ?_
    refine h_cons ?_
    refine h_op ?_
    refine h_op ?_
    refine h_var rfl ?_
    refine h_c ?_
    obtain ⟨p25, xs26, hv, hs27, hr28⟩ := Rep.st w (r_one.mono st.ex)
    cases hv
    obtain ⟨u29, hu, r30⟩ := RepL.at hr28 (i := 1) rfl
    refine h_ixT hs27 hu ?_
    cases r30
    refine h_op ?_
    refine h_var rfl ?_
    refine h_c ?_
    obtain ⟨p31, xs32, hv, hs33, hr34⟩ := Rep.st w (r_other.mono st.ex)
    cases hv
    obtain ⟨u35, hu, r36⟩ := RepL.at hr34 (i := 1) rfl
    refine h_ixT hs33 hu ?_
    cases r36
    obtain ⟨gd, P⟩ := P.guard
    refine h_I gd ?_
    refine h_nil ?_
    refine ⟨B0, .int ((a_one.a * a_other.b) + (a_other.a * a_one.b)), (enc (((a_one.a * a_other.b) + (a_other.a * a_one.b)) : Int)), .int (a_one.b * a_other.b), (enc ((a_one.b * a_other.b) : Int)), w, rfl, (Rep.int _), (Rep.int _), Post.mono2 P.bind (fun e43 P => ?_) (fun x37 P => ?_)⟩
    · skip
      exact fun C B' H' g s => P C B' H' g (st.go s go0)
    refine fun v41 B38 H39 s40 r42 => ?_
    replace st := st.go s40 go0
    replace w := s40.ok
    exact P.ok _ _ _ st r42
theorem ok_minus {f : Addr} {fd : FuncData}  (F : Fun K "minus" "minus" s_minus f fd) {f_fraction : Addr} {d_fraction : FuncData} (g_fraction : mg "fraction" = some (.ref f_fraction)) (k_fraction : PySem.W.keepIn K (.ref f_fraction) = true) (b_fraction : L2.Binds K d_fraction ["top", "bottom"] []) (G_fraction : FnOk Pr wo K mg base (L2.CX Pr wo) 2 f_fraction d_fraction ["top", "bottom"] (sp_fraction K mg)) : FnOk Pr wo K mg base (L2.CX Pr wo) 3 f fd ["one", "other"] (sp_minus K mg) := by
  refine F.okX sc_minus (fun vs H Q E h => ?_) (fun cdv A outer s H0 vs Q E hr h => ?_)
  · obtain ⟨_, _, _, _, _, _, rfl, _⟩ := h; rfl
  · obtain ⟨B0, v_one, a_one, v_other, a_other, w, rfl, r_one, r_other, P⟩ := h
    have w0 := w
    have hu := hu_of hr
    have hu64 := hu64_of hr
    have hr2 : Room 2 _ := hr.mono (by decide)
    refine ⟨_, (pss_one (ps_ret (pe_callS G_fraction hr2 rfl g_fraction k_fraction b_fraction (fun σ => passAt (takes_of rfl rfl rfl rfl) σ) (pa_cons (pe_op op_sub (pe_op op_mulW (pe_ix (r := rIxT K) ix_tup (pv 0) pe_int (fun _ _ => rfl)) (pe_ix (r := rIxT K) ix_tup (pv 1) pe_int (fun _ _ => rfl))) (pe_op op_mulW (pe_ix (r := rIxT K) ix_tup (pv 1) pe_int (fun _ _ => rfl)) (pe_ix (r := rIxT K) ix_tup (pv 0) pe_int (fun _ _ => rfl)))) (pa_cons (pe_op op_mulW (pe_ix (r := rIxT K) ix_tup (pv 0) pe_int (fun _ _ => rfl)) (pe_ix (r := rIxT K) ix_tup (pv 1) pe_int (fun _ _ => rfl))) pa_nil))))), ?_⟩
    unfold m_minus at P
    have st := Stp.refl (W := []) w
    refine h_ret ?_
    refine h_callS ?_
    refine h_cons ?_
    refine h_op ?_
    refine h_op ?_
    refine h_op ?_
    refine h_var rfl ?_
    refine h_c ?_
    obtain ⟨p1, xs2, rfl, hs3, hr4⟩ := Rep.st w (r_one.mono st.ex)
    obtain ⟨u5, hu, r6⟩ := RepL.at hr4 (i := 0) rfl
    refine h_ixT hs3 hu ?_
    cases r6
    refine h_op ?_
    refine h_var rfl ?_
    refine h_c ?_
    obtain ⟨p7, xs8, rfl, hs9, hr10⟩ := Rep.st w (r_other.mono st.ex)
    obtain ⟨u11, hu, r12⟩ := RepL.at hr10 (i := 1) rfl
    refine h_ixT hs9 hu ?_
    cases r12
    obtain ⟨gd, P⟩ := P.guard
    refine h_I gd ?_
    refine h_op ?_
    refine h_op ?_
    refine h_var rfl ?_
    refine h_c ?_
    obtain ⟨p13, xs14, hv, hs15, hr16⟩ := Rep.st w (r_other.mono st.ex)
    cases hv
    obtain ⟨u17, hu, r18⟩ := RepL.at hr16 (i := 0) rfl
    refine h_ixT hs15 hu ?_
    cases r18
    refine h_op ?_
    refine h_var rfl ?_
    refine h_c ?_
    obtain ⟨p19, xs20, hv, hs21, hr22⟩ := Rep.st w (r_one.mono st.ex)
    cases hv
    obtain ⟨u23, hu, r24⟩ := RepL.at hr22 (i := 1) rfl
    refine h_ixT hs21 hu ?_
    cases r24
    obtain ⟨gd, P⟩ := P.guard
    refine h_I gd ?_
    refine h_I0 ?_
    refine h_cons ?_
    refine h_op ?_
    refine h_op ?_
    refine h_var rfl ?_
    refine h_c ?_
    obtain ⟨p25, xs26, hv, hs27, hr28⟩ := Rep.st w (r_one.mono st.ex)
    cases hv
    obtain ⟨u29, hu, r30⟩ := RepL.at hr28 (i := 1) rfl
    refine h_ixT hs27 hu ?_
    cases r30
    refine h_op ?_
    refine h_var rfl ?_
    refine h_c ?_
    obtain ⟨p31, xs32, hv, hs33, hr34⟩ := Rep.st w (r_other.mono st.ex)
    cases hv
    obtain ⟨u35, hu, r36⟩ := RepL.at hr34 (i := 1) rfl
    refine h_ixT hs33 hu ?_
    cases r36
    obtain ⟨gd, P⟩ := P.guard
    refine h_I gd ?_
    refine h_nil ?_
    refine ⟨B0, .int ((a_one.a * a_other.b) - (a_other.a * a_one.b)), (enc (((a_one.a * a_other.b) - (a_other.a * a_one.b)) : Int)), .int (a_one.b * a_other.b), (enc ((a_one.b * a_other.b) : Int)), w, rfl, (Rep.int _), (Rep.int _), Post.mono2 P.bind (fun e43 P => ?_) (fun x37 P => ?_)⟩
    · skip
      exact fun C B' H' g s => P C B' H' g (st.go s go0)
    refine fun v41 B38 H39 s40 r42 => ?_
    replace st := st.go s40 go0
    replace w := s40.ok
    exact P.ok _ _ _ st r42
theorem ok_times {f : Addr} {fd : FuncData}  (F : Fun K "times" "times" s_times f fd) {f_fraction : Addr} {d_fraction : FuncData} (g_fraction : mg "fraction" = some (.ref f_fraction)) (k_fraction : PySem.W.keepIn K (.ref f_fraction) = true) (b_fraction : L2.Binds K d_fraction ["top", "bottom"] []) (G_fraction : FnOk Pr wo K mg base (L2.CX Pr wo) 2 f_fraction d_fraction ["top", "bottom"] (sp_fraction K mg)) : FnOk Pr wo K mg base (L2.CX Pr wo) 3 f fd ["one", "other"] (sp_times K mg) := by
  refine F.okX sc_times (fun vs H Q E h => ?_) (fun cdv A outer s H0 vs Q E hr h => ?_)
  · obtain ⟨_, _, _, _, _, _, rfl, _⟩ := h; rfl
  · obtain ⟨B0, v_one, a_one, v_other, a_other, w, rfl, r_one, r_other, P⟩ := h
    have w0 := w
    have hu := hu_of hr
    have hu64 := hu64_of hr
    have hr2 : Room 2 _ := hr.mono (by decide)
    refine ⟨_, (pss_one (ps_ret (pe_callS G_fraction hr2 rfl g_fraction k_fraction b_fraction (fun σ => passAt (takes_of rfl rfl rfl rfl) σ) (pa_cons (pe_op op_mulW (pe_ix (r := rIxT K) ix_tup (pv 0) pe_int (fun _ _ => rfl)) (pe_ix (r := rIxT K) ix_tup (pv 1) pe_int (fun _ _ => rfl))) (pa_cons (pe_op op_mulW (pe_ix (r := rIxT K) ix_tup (pv 0) pe_int (fun _ _ => rfl)) (pe_ix (r := rIxT K) ix_tup (pv 1) pe_int (fun _ _ => rfl))) pa_nil))))), ?_⟩
    unfold m_times at P
    have st := Stp.refl (W := []) w
    refine h_ret ?_
    refine h_callS ?_
    refine h_cons ?_
    refine h_op ?_
    refine h_op ?_
    refine h_var rfl ?_
    refine h_c ?_
    obtain ⟨p1, xs2, rfl, hs3, hr4⟩ := Rep.st w (r_one.mono st.ex)
    obtain ⟨u5, hu, r6⟩ := RepL.at hr4 (i := 0) rfl
    refine h_ixT hs3 hu ?_
    cases r6
    refine h_op ?_
    refine h_var rfl ?_
    refine h_c ?_
    obtain ⟨p7, xs8, rfl, hs9, hr10⟩ := Rep.st w (r_other.mono st.ex)
    obtain ⟨u11, hu, r12⟩ := RepL.at hr10 (i := 0) rfl
    refine h_ixT hs9 hu ?_
    cases r12
    obtain ⟨gd, P⟩ := P.guard
    refine h_I gd ?_
    refine h_cons ?_
    refine h_op ?_
    refine h_op ?_
    refine h_var rfl ?_
    refine h_c ?_
    obtain ⟨p13, xs14, hv, hs15, hr16⟩ := Rep.st w (r_one.mono st.ex)
    cases hv
    obtain ⟨u17, hu, r18⟩ := RepL.at hr16 (i := 1) rfl
    refine h_ixT hs15 hu ?_
    cases r18
    refine h_op ?_
    refine h_var rfl ?_
    refine h_c ?_
    obtain ⟨p19, xs20, hv, hs21, hr22⟩ := Rep.st w (r_other.mono st.ex)
    cases hv
    obtain ⟨u23, hu, r24⟩ := RepL.at hr22 (i := 1) rfl
    refine h_ixT hs21 hu ?_
    cases r24
    obtain ⟨gd, P⟩ := P.guard
    refine h_I gd ?_
    refine h_nil ?_
    refine ⟨B0, .int (a_one.a * a_other.a), (enc ((a_one.a * a_other.a) : Int)), .int (a_one.b * a_other.b), (enc ((a_one.b * a_other.b) : Int)), w, rfl, (Rep.int _), (Rep.int _), Post.mono2 P.bind (fun e31 P => ?_) (fun x25 P => ?_)⟩
    · skip
      exact fun C B' H' g s => P C B' H' g (st.go s go0)
    refine fun v29 B26 H27 s28 r30 => ?_
    replace st := st.go s28 go0
    replace w := s28.ok
    exact P.ok _ _ _ st r30
theorem ok_shared {f : Addr} {fd : FuncData}  (F : Fun K "shared" "shared" s_shared f fd) {C_NoFraction : Addr} (T_NoFraction : ExcR K mg "NoFraction" C_NoFraction) {f_fraction : Addr} {d_fraction : FuncData} (g_fraction : mg "fraction" = some (.ref f_fraction)) (k_fraction : PySem.W.keepIn K (.ref f_fraction) = true) (b_fraction : L2.Binds K d_fraction ["top", "bottom"] []) (G_fraction : FnOk Pr wo K mg base (L2.CX Pr wo) 2 f_fraction d_fraction ["top", "bottom"] (sp_fraction K mg)) : FnOk Pr wo K mg base (L2.CX Pr wo) 3 f fd ["one", "other"] (sp_shared K mg) := by
  refine F.okX sc_shared (fun vs H Q E h => ?_) (fun cdv A outer s H0 vs Q E hr h => ?_)
  · obtain ⟨_, _, _, _, _, _, rfl, _⟩ := h; rfl
  · obtain ⟨B0, v_one, a_one, v_other, a_other, w, rfl, r_one, r_other, P⟩ := h
    have w0 := w
    have hu := hu_of hr
    have hu64 := hu64_of hr
    have hr2 : Room 2 _ := hr.mono (by decide)
    refine ⟨_, (pss_cons (ps_if (pt_cmpR op_eq (pe_ix (r := rIxT K) ix_tup (pv 1) pe_int (fun _ _ => rfl)) pe_int (nomark _)) (pss_one (ps_raise rfl (takes_of rfl rfl rfl rfl) (pmk_own PySem.F.excBase_ValueError T_NoFraction.ex T_NoFraction.g T_NoFraction.kp (raises_own T_NoFraction.ec.hs T_NoFraction.ty) rfl))) pss_nil)
      (pss_one (ps_ret (pe_callS G_fraction hr2 rfl g_fraction k_fraction b_fraction (fun σ => passAt (takes_of rfl rfl rfl rfl) σ) (pa_cons (pe_op op_mulW (pe_ix (r := rIxT K) ix_tup (pv 0) pe_int (fun _ _ => rfl)) (pe_ix (r := rIxT K) ix_tup (pv 1) pe_int (fun _ _ => rfl))) (pa_cons (pe_op op_mulW (pe_ix (r := rIxT K) ix_tup (pv 0) pe_int (fun _ _ => rfl)) (pe_ix (r := rIxT K) ix_tup (pv 1) pe_int (fun _ _ => rfl))) pa_nil)))))), ?_⟩
    unfold m_shared at P
    have st := Stp.refl (W := []) w
    refine h_seq <| h_if ?_
    refine h_test ?_
    refine h_op ?_
    refine h_op ?_
    refine h_var rfl ?_
    refine h_c ?_
    obtain ⟨p1, xs2, rfl, hs3, hr4⟩ := Rep.st w (r_other.mono st.ex)
    obtain ⟨u5, hu, r6⟩ := RepL.at hr4 (i := 0) rfl
    refine h_ixT hs3 hu ?_
    cases r6
    refine h_c ?_
    refine h_eqI ?_
    refine h_bl ?_
    refine h_ite (fun c1 => ?_) (fun c1 => ?_)
    · replace P := P.iteT c1
      exact P.err _ _ _ T_NoFraction.g st
    · replace P := P.iteF c1
      refine h_next ?_
      refine h_nx ?_
      refine h_ret ?_
      refine h_callS ?_
      refine h_cons ?_
      refine h_op ?_
      refine h_op ?_
      refine h_var rfl ?_
      refine h_c ?_
      obtain ⟨p7, xs8, rfl, hs9, hr10⟩ := Rep.st w (r_one.mono st.ex)
      obtain ⟨u11, hu, r12⟩ := RepL.at hr10 (i := 0) rfl
      refine h_ixT hs9 hu ?_
      cases r12
      refine h_op ?_
      refine h_var rfl ?_
      refine h_c ?_
      obtain ⟨p13, xs14, hv, hs15, hr16⟩ := Rep.st w (r_other.mono st.ex)
      cases hv
      obtain ⟨u17, hu, r18⟩ := RepL.at hr16 (i := 1) rfl
      refine h_ixT hs15 hu ?_
      cases r18
      obtain ⟨gd, P⟩ := P.guard
      refine h_I gd ?_
      refine h_cons ?_
      refine h_op ?_
      refine h_op ?_
      refine h_var rfl ?_
      refine h_c ?_
      obtain ⟨p19, xs20, hv, hs21, hr22⟩ := Rep.st w (r_one.mono st.ex)
      cases hv
      obtain ⟨u23, hu, r24⟩ := RepL.at hr22 (i := 1) rfl
      refine h_ixT hs21 hu ?_
      cases r24
      refine h_op ?_
      refine h_var rfl ?_
      refine h_c ?_
      obtain ⟨p25, xs26, hv, hs27, hr28⟩ := Rep.st w (r_other.mono st.ex)
      cases hv
      obtain ⟨u29, hu, r30⟩ := RepL.at hr28 (i := 0) rfl
      refine h_ixT hs27 hu ?_
      cases r30
      obtain ⟨gd, P⟩ := P.guard
      refine h_I gd ?_
      refine h_nil ?_
      refine ⟨B0, .int (a_one.a * a_other.b), (enc ((a_one.a * a_other.b) : Int)), .int (a_one.b * a_other.a), (enc ((a_one.b * a_other.a) : Int)), w, rfl, (Rep.int _), (Rep.int _), Post.mono2 P.bind (fun e37 P => ?_) (fun x31 P => ?_)⟩
      · skip
        exact fun C B' H' g s => P C B' H' g (st.go s go0)
      refine fun v35 B32 H33 s34 r36 => ?_
      replace st := st.go s34 go0
      replace w := s34.ok
      exact P.ok _ _ _ st r36
theorem ok_less {f : Addr} {fd : FuncData}  (F : Fun K "less" "less" s_less f fd)  : FnOk Pr wo K mg base CX0 1 f fd ["one", "other"] (sp_less K) := by
  refine F.ok sc_less (fun vs H Q E h => ?_) (fun cdv A outer s H0 vs Q E hr h => ?_)
  · obtain ⟨_, _, _, _, _, _, rfl, _⟩ := h; rfl
  · obtain ⟨B0, v_one, a_one, v_other, a_other, w, rfl, r_one, r_other, P⟩ := h
    have w0 := w
    have hu := hu_of hr
    have hu64 := hu64_of hr
    refine ⟨_, (pss_one (ps_ret (pe_cmpR op_lt (pe_op op_mulW (pe_ix (r := rIxT K) ix_tup (pv 0) pe_int (fun _ _ => rfl)) (pe_ix (r := rIxT K) ix_tup (pv 1) pe_int (fun _ _ => rfl))) (pe_op op_mulW (pe_ix (r := rIxT K) ix_tup (pv 1) pe_int (fun _ _ => rfl)) (pe_ix (r := rIxT K) ix_tup (pv 0) pe_int (fun _ _ => rfl))) (nomark _)))), ?_⟩
    unfold m_less at P
    have st := Stp.refl (W := []) w
    refine h_ret ?_
    refine h_op ?_
    refine h_op ?_
    refine h_op ?_
    refine h_var rfl ?_
    refine h_c ?_
    obtain ⟨p1, xs2, rfl, hs3, hr4⟩ := Rep.st w (r_one.mono st.ex)
    obtain ⟨u5, hu, r6⟩ := RepL.at hr4 (i := 0) rfl
    refine h_ixT hs3 hu ?_
    cases r6
    refine h_op ?_
    refine h_var rfl ?_
    refine h_c ?_
    obtain ⟨p7, xs8, rfl, hs9, hr10⟩ := Rep.st w (r_other.mono st.ex)
    obtain ⟨u11, hu, r12⟩ := RepL.at hr10 (i := 1) rfl
    refine h_ixT hs9 hu ?_
    cases r12
    obtain ⟨gd, P⟩ := P.guard
    refine h_I gd ?_
    refine h_op ?_
    refine h_op ?_
    refine h_var rfl ?_
    refine h_c ?_
    obtain ⟨p13, xs14, hv, hs15, hr16⟩ := Rep.st w (r_other.mono st.ex)
    cases hv
    obtain ⟨u17, hu, r18⟩ := RepL.at hr16 (i := 0) rfl
    refine h_ixT hs15 hu ?_
    cases r18
    refine h_op ?_
    refine h_var rfl ?_
    refine h_c ?_
    obtain ⟨p19, xs20, hv, hs21, hr22⟩ := Rep.st w (r_one.mono st.ex)
    cases hv
    obtain ⟨u23, hu, r24⟩ := RepL.at hr22 (i := 1) rfl
    refine h_ixT hs21 hu ?_
    cases r24
    obtain ⟨gd, P⟩ := P.guard
    refine h_I gd ?_
    refine h_I0 ?_
    exact P.ok _ _ _ st (Rep.bl _)
theorem ok_is_edit {f : Addr} {fd : FuncData}  (F : Fun K "is_edit" "is_edit" s_is_edit f fd) {C_NOUGHT : Addr} (c_NOUGHT : CT K mg "NOUGHT" C_NOUGHT (⟨0, 1⟩ : (Tp2 Int Int))) {f_is_moment : Addr} {d_is_moment : FuncData} (g_is_moment : mg "is_moment" = some (.ref f_is_moment)) (k_is_moment : PySem.W.keepIn K (.ref f_is_moment) = true) (b_is_moment : L2.Binds K d_is_moment ["thing"] []) (G_is_moment : FnOk Pr wo K mg base CX0 3 f_is_moment d_is_moment ["thing"] (sp_is_moment K)) {f_is_fraction : Addr} {d_is_fraction : FuncData} (g_is_fraction : mg "is_fraction" = some (.ref f_is_fraction)) (k_is_fraction : PySem.W.keepIn K (.ref f_is_fraction) = true) (b_is_fraction : L2.Binds K d_is_fraction ["thing"] []) (G_is_fraction : FnOk Pr wo K mg base CX0 2 f_is_fraction d_is_fraction ["thing"] (sp_is_fraction K)) {f_less : Addr} {d_less : FuncData} (g_less : mg "less" = some (.ref f_less)) (k_less : PySem.W.keepIn K (.ref f_less) = true) (b_less : L2.Binds K d_less ["one", "other"] []) (G_less : FnOk Pr wo K mg base CX0 1 f_less d_less ["one", "other"] (sp_less K)) (bI_isinstance : mg "isinstance" = none) (bI_tuple : mg "tuple" = none) (bI_len : mg "len" = none) : FnOk Pr wo K mg base CX0 4 f fd ["thing"] (sp_is_edit K) := by
  refine F.ok sc_is_edit (fun vs H Q E h => ?_) (fun cdv A outer s H0 vs Q E hr h => ?_)
  · obtain ⟨_, _, _, _, rfl, _⟩ := h; rfl
  · obtain ⟨B0, v_thing, a_thing, w, rfl, r_thing, P⟩ := h
    have w0 := w
    have hu := hu_of hr
    have hu64 := hu64_of hr
    have hr1 : Room 1 _ := hr.mono (by decide)
    have hr2 : Room 2 _ := hr.mono (by decide)
    have hr3 : Room 3 _ := hr.mono (by decide)
    refine ⟨_, (pss_cons (ps_if (PW.pt (pw_or (pt_not (pt_val (pe_callB (r := rIsi K) call_isi (by rfl) bI_isinstance PyProof.Rows.boot_isinstance (pa_cons (pv 0) (pa_cons (pe_bltn (v := .ty "tuple") (by rfl) bI_tuple Y.boot_tuple rfl) pa_nil))))) (pw_or1 (pt_cmpR op_ne (pe_callB (r := rLenY K) cr_len (by rfl) bI_len PySem.boot_len (pa_cons (pv 0) pa_nil)) pe_int (nomark _))))) (pss_one (ps_ret pe_bl)) pss_nil)
      (pss_cons (ps_asg (pv 0) (pg_tupK (K := K) (n := 3) rfl rfl (pgs_cons (pg_name (i := 1) sc_is_edit.nd rfl (by first | exact Or.inl rfl | exact Or.inr rfl)) (pgs_cons (pg_name (i := 2) sc_is_edit.nd rfl (by first | exact Or.inl rfl | exact Or.inr rfl)) (pgs_cons (pg_name (i := 3) sc_is_edit.nd rfl (by first | exact Or.inl rfl | exact Or.inr rfl)) pgs_nil)))))
      (pss_cons (ps_if (PW.pt (pw_or (pt_not (pt_val (pe_call G_is_fraction hr2 rfl g_is_fraction k_is_fraction b_is_fraction .nil pass0 (pa_cons (pv 1) pa_nil)))) (pw_or (pt_not (pt_val (pe_call G_less hr1 rfl g_less k_less b_less .nil pass0 (pa_cons (pe_glob (v := .ref C_NOUGHT) (by rfl) c_NOUGHT.g rfl) (pa_cons (pv 1) pa_nil))))) (pw_or1 (pt_not (pt_val (pe_call G_is_moment hr3 rfl g_is_moment k_is_moment b_is_moment .nil pass0 (pa_cons (pv 3) pa_nil)))))))) (pss_one (ps_ret pe_bl)) pss_nil)
      (pss_cons (ps_if (pt_cmpR op_isNn (pv 2) pe_non (nomark _)) (pss_one (ps_ret (pe_cmpR (r := rEqD K) (op_eqD hu64) (pv 3) (pe_glob (v := .ref C_NOUGHT) (by rfl) c_NOUGHT.g rfl) (nomark _)))) pss_nil)
      (pss_one (ps_ret (pe_call G_is_moment hr3 rfl g_is_moment k_is_moment b_is_moment .nil pass0 (pa_cons (pv 2) pa_nil)))))))), ?_⟩
    unfold m_is_edit at P
    have st := Stp.refl (W := []) w
    refine h_seq <| h_if ?_
    refine h_tor ?_
    refine h_tnot ?_
    refine h_tB ?_
    refine h_cb ?_
    refine h_cons ?_
    refine h_var rfl ?_
    refine h_cons ?_
    refine h_c ?_
    refine h_nil ?_
    refine isi (t := "tuple") w (r_thing.mono st.ex) ?_
    refine h_bl ?_
    refine h_iteN (fun c1 => ?_) (fun c1 => ?_)
    · replace P := P.iteF c1
      refine h_iteT ?_
      refine h_ret ?_
      refine h_c ?_
      exact P.ok _ _ _ st (Rep.bl _)
    · replace P := P.iteT c1
      refine h_test ?_
      refine h_op ?_
      refine h_cb ?_
      refine h_cons ?_
      refine h_var rfl ?_
      refine h_nil ?_
      obtain ⟨l1, hl2, P⟩ := P.asT
      have rc3 := (r_thing.mono st.ex)
      rw [hl2] at rc3
      obtain ⟨p4, xs5, rfl, hs6, hr7⟩ := Rep.st w rc3
      refine h_lenTl hs6 hr7 ?_
      refine h_c ?_
      refine h_neI ?_
      refine h_bl ?_
      refine h_ite (fun c1 => ?_) (fun c1 => ?_)
      · replace P := P.iteT c1
        refine h_ret ?_
        refine h_c ?_
        exact P.ok _ _ _ st (Rep.bl _)
      · replace P := P.iteF c1
        refine h_next ?_
        refine h_nx ?_
        refine h_seq ?_
        refine h_asg ?_
        refine h_var rfl ?_
        obtain ⟨l8, hl9, P⟩ := P.asT
        have rc10 := (r_thing.mono st.ex)
        rw [hl9] at rc10
        obtain ⟨p11, xs12, hv, hs13, hr14⟩ := Rep.st w rc10
        cases hv
        obtain ⟨gd, P⟩ := P.guard
        refine h_tupG hs13 (by rw [hr14.length, List.length_map]; exact gd) ?_
        obtain ⟨x16, hx17, P⟩ := P.ix
        obtain ⟨u18, huu18, r19⟩ := RepL.atE hr14 hx17
        obtain ⟨x20, hx21, P⟩ := P.ix
        obtain ⟨u22, huu22, r23⟩ := RepL.atE hr14 hx21
        obtain ⟨x24, hx25, P⟩ := P.ix
        obtain ⟨u26, huu26, r27⟩ := RepL.atE hr14 hx25
        obtain rfl : xs12 = [u18, u22, u26] := tup3 (by rw [hr14.length, List.length_map]; exact gd) huu18 huu22 huu26
        refine h_gcons ?_
        refine h_gname ?_
        refine h_gcons ?_
        refine h_gname ?_
        refine h_gcons ?_
        refine h_gname ?_
        refine h_gnil ?_
        refine h_nx ?_
        refine h_seq <| h_if ?_
        refine h_tor ?_
        refine h_tnot ?_
        refine h_tB ?_
        refine h_call ?_
        refine h_cons ?_
        refine h_var rfl ?_
        refine h_nil ?_
        refine ⟨B0, u18, x16, w, rfl, r19, (P.bind).mono (fun x28 P => ?_) (fun _ z => z)⟩
        refine fun v32 B29 H30 s31 r33 => ?_
        replace r19 := r19.mono s31.ex
        replace r23 := r23.mono s31.ex
        replace r27 := r27.mono s31.ex
        replace st := st.go s31 go0
        replace w := s31.ok
        cases r33
        refine h_bl ?_
        refine h_iteN (fun c1 => ?_) (fun c1 => ?_)
        · replace P := P.iteF c1
          refine h_iteT ?_
          refine h_ret ?_
          refine h_c ?_
          exact P.ok _ _ _ st (Rep.bl _)
        · replace P := P.iteT c1
          refine h_tor ?_
          refine h_tnot ?_
          refine h_tB ?_
          refine h_call ?_
          refine h_cons ?_
          refine h_c ?_
          have r34 := c_NOUGHT.rep B29
          refine h_cons ?_
          refine h_var rfl ?_
          refine h_nil ?_
          obtain ⟨x35, hx36, P⟩ := P.asD
          have rc37 := r19
          rw [hx36] at rc37
          refine ⟨B29, (.ref C_NOUGHT), (⟨0, 1⟩ : (Tp2 Int Int)), u18, x35, w, rfl, r34, rc37, (P.bind).mono (fun x38 P => ?_) (fun _ z => z)⟩
          refine fun v42 B39 H40 s41 r43 => ?_
          replace r19 := r19.mono s41.ex
          replace r23 := r23.mono s41.ex
          replace r27 := r27.mono s41.ex
          replace r34 := r34.mono s41.ex
          replace st := st.go s41 go0
          replace w := s41.ok
          cases r43
          refine h_bl ?_
          refine h_iteN (fun c1 => ?_) (fun c1 => ?_)
          · replace P := P.iteF c1
            refine h_iteT ?_
            refine h_ret ?_
            refine h_c ?_
            exact P.ok _ _ _ st (Rep.bl _)
          · replace P := P.iteT c1
            refine h_tnot ?_
            refine h_tB ?_
            refine h_call ?_
            refine h_cons ?_
            refine h_var rfl ?_
            refine h_nil ?_
            refine ⟨B39, u26, x24, w, rfl, r27, (P.bind).mono (fun x44 P => ?_) (fun _ z => z)⟩
            refine fun v48 B45 H46 s47 r49 => ?_
            replace r19 := r19.mono s47.ex
            replace r23 := r23.mono s47.ex
            replace r27 := r27.mono s47.ex
            replace st := st.go s47 go0
            replace w := s47.ok
            cases r49
            refine h_bl ?_
            refine h_iteN (fun c1 => ?_) (fun c1 => ?_)
            · replace P := P.iteF c1
              refine h_ret ?_
              refine h_c ?_
              exact P.ok _ _ _ st (Rep.bl _)
            · replace P := P.iteT c1
              refine h_next ?_
              refine h_nx ?_
              refine h_seq <| h_if ?_
              refine h_test ?_
              refine h_op ?_
              refine h_var rfl ?_
              refine h_c ?_
              refine h_isN r23 ?_
              refine h_bl ?_
              refine h_ite (fun c1 => ?_) (fun c1 => ?_)
              · replace P := P.iteT c1
                refine h_ret ?_
                refine h_op ?_
                refine h_var rfl ?_
                refine h_c ?_
                have r50 := c_NOUGHT.rep B45
                obtain ⟨gd, P⟩ := P.guard
                refine h_eqD (d := x24) (e := (enc (⟨0, 1⟩ : (Tp2 Int Int)))) w r27 r50 gd ?_
                exact P.ok _ _ _ st (Rep.bl _)
              · replace P := P.iteF c1
                refine h_next ?_
                refine h_nx ?_
                refine h_ret ?_
                refine h_call ?_
                refine h_cons ?_
                refine h_var rfl ?_
                refine h_nil ?_
                refine ⟨B45, u22, x20, w, rfl, r23, (P.bind).mono (fun x51 P => ?_) (fun _ z => z)⟩
                refine fun v55 B52 H53 s54 r56 => ?_
                replace r19 := r19.mono s54.ex
                replace r23 := r23.mono s54.ex
                replace r27 := r27.mono s54.ex
                replace st := st.go s54 go0
                replace w := s54.ok
                cases r56
                exact P.ok _ _ _ st (Rep.bl _)
theorem ok_is_edits {f : Addr} {fd : FuncData}  (F : Fun K "is_edits" "is_edits" s_is_edits f fd) {f_is_edit : Addr} {d_is_edit : FuncData} (g_is_edit : mg "is_edit" = some (.ref f_is_edit)) (k_is_edit : PySem.W.keepIn K (.ref f_is_edit) = true) (b_is_edit : L2.Binds K d_is_edit ["thing"] []) (G_is_edit : FnOk Pr wo K mg base CX0 4 f_is_edit d_is_edit ["thing"] (sp_is_edit K)) (bI_isinstance : mg "isinstance" = none) (bI_list : mg "list" = none) (bI_all : mg "all" = none) : FnOk Pr wo K mg base CX0 5 f fd ["thing"] (sp_is_edits K) := by
  refine F.ok sc_is_edits (fun vs H Q E h => ?_) (fun cdv A outer s H0 vs Q E hr h => ?_)
  · obtain ⟨_, _, _, _, rfl, _⟩ := h; rfl
  · obtain ⟨B0, v_thing, a_thing, w, rfl, r_thing, P⟩ := h
    have w0 := w
    have hu := hu_of hr
    have hu64 := hu64_of hr
    have hr4 : Room 4 _ := hr.mono (by decide)
    refine ⟨_, (pss_one (ps_ret (pe_and (pe_callB (r := rIsi K) call_isi (by rfl) bI_isinstance PyProof.Rows.boot_isinstance (pa_cons (pv 0) (pa_cons (pe_bltn (v := .ty "list") (by rfl) bI_list Y.boot_list rfl) pa_nil))) (pe_one (pe_callB (r := rAll K) (cr_all rfl) (by rfl) bI_all PyProof.Rows.boot_all (pa_cons (pe_lc (own := [("edit", 1)]) rfl sc_is_edits.nd (pi_list (pv 0)) (blkOk_by (N := ["thing", "edit"]) (sc := defScope s_is_edits) (by decide +kernel)) (fun _ _ _ _ _ => (pg_name (i := 1) sc_is_edits.nd rfl (by first | exact Or.inl rfl | exact Or.inr rfl))) (fun _ _ _ _ _ => pts_nil) (fun _ _ _ _ _ => (pe_call G_is_edit hr4 rfl g_is_edit k_is_edit b_is_edit .nil pass0 (pa_cons (pv 1) pa_nil)))) pa_nil)))))), ?_⟩
    unfold m_is_edits at P
    have st := Stp.refl (W := []) w
    refine h_ret ?_
    refine h_and ?_
    refine h_cb ?_
    refine h_cons ?_
    refine h_var rfl ?_
    refine h_cons ?_
    refine h_c ?_
    refine h_nil ?_
    obtain ⟨p1, xs2, rfl, hs3, hr4⟩ := Bor.sq (r_thing.step st)
    refine isiL (t := "list") (l := a_thing.map enc) hs3 ?_
    refine h_bl ?_
    refine h_ite (fun c1 => ?_) (fun c1 => ?_)
    · replace P := P.iteT c1
      refine h_cb ?_
      refine h_cons ?_
      refine h_lcE ?_
      refine h_var rfl ?_
      obtain ⟨p5, xs6, hv, hr8, hb7⟩ := Bor.sq0 r_thing
      cases hv
      refine h_lcL P (hb7 _ _ st) (hr8.mono st.ex) (fun Dl (acc : List Bool) (a : Unit) H' => ∃ B', Stp [] B0 H0 B' H' ∧ H0 Dl = none ∧ Mu K B' H' Dl (acc.map enc)) (fun Dl hD => ⟨_, Stp.newM w hD, hD, Mu.new w hD .nil⟩) (fun _ _ _ _ j => ?_) ?_ ?_
      · obtain ⟨B18, s19, hD20, m21⟩ := j
        exact hb7 _ _ (st.go s19 go0)
      · rintro Dl9 N10 T11 x12 v13 acc15 a16 H17 ⟨B18, s19, hD20, m21⟩ r14 hz22 kk23 kn24 P
        have wj26 := w
        have sj25 := s19
        have n27 := st.nn hD20
        replace st := st.go s19 go0
        replace w := s19.ok
        replace r14 := r14.mono s19.ex
        refine h_gname ?_
        refine h_lcT rfl ?_
        refine h_call ?_
        refine h_cons ?_
        refine h_var rfl ?_
        refine h_nil ?_
        refine ⟨B18, v13, (enc x12), w, rfl, r14, (P.bind).mono (fun x28 P => ?_) (fun _ z => z)⟩
        refine fun v32 B29 H30 s31 r33 => ?_
        replace r14 := r14.mono s31.ex
        replace m21 := m21.step s31 nm0
        replace st := st.go s31 go0
        replace sj25 := sj25.go s31 go0
        replace w := s31.ok
        cases r33
        refine h_app (b := x28) w m21 (Rep.bl _) hz22 (fun H34 s35 m21 => ?_)
        replace r14 := r14.mono s35.ex
        replace st := st.go s35 (go1 (.inr n27))
        replace sj25 := sj25.go s35 (go1 (.inr hD20))
        replace w := s35.ok
        exact kk23 x28 () _ ⟨_, sj25, hD20, m21⟩ P.ok
      · rintro Dl9 acc15 a16 H17 ⟨B18, s19, hD20, m21⟩ P
        have n36 := st.nn hD20
        replace st := st.go s19 go0
        replace w := s19.ok
        replace P := P.un2
        obtain ⟨B41, e37, k38, g39, r40⟩ := Mu.keep m21
        replace st := g39 _ _ _ st w0 n36
        replace w := st.ok
        replace r40 : Rep K B41 (.ref Dl9) (enc acc15) := r40
        refine h_nil ?_
        obtain ⟨p42, xs43, hv, hs44, hr45⟩ := Rep.sq w r40
        cases hv
        refine h_all hs44 hr45 ?_
        exact P.ok _ _ _ st (Rep.bl _)
    · replace P := P.iteF c1
      exact P.ok _ _ _ st (Rep.bl _)
theorem ok_sure_edits {f : Addr} {fd : FuncData}  (F : Fun K "sure_edits" "sure_edits" s_sure_edits f fd) {C_NoEdits : Addr} (T_NoEdits : ExcR K mg "NoEdits" C_NoEdits) {f_is_edits : Addr} {d_is_edits : FuncData} (g_is_edits : mg "is_edits" = some (.ref f_is_edits)) (k_is_edits : PySem.W.keepIn K (.ref f_is_edits) = true) (b_is_edits : L2.Binds K d_is_edits ["thing"] []) (G_is_edits : FnOk Pr wo K mg base CX0 5 f_is_edits d_is_edits ["thing"] (sp_is_edits K)) : FnOk Pr wo K mg base (L2.CX Pr wo) 6 f fd ["thing"] (sp_sure_edits K mg) := by
  refine F.okX sc_sure_edits (fun vs H Q E h => ?_) (fun cdv A outer s H0 vs Q E hr h => ?_)
  · obtain ⟨_, _, _, _, rfl, _⟩ := h; rfl
  · obtain ⟨B0, v_thing, a_thing, w, rfl, r_thing, P⟩ := h
    have w0 := w
    have hu := hu_of hr
    have hu64 := hu64_of hr
    have hr5 : Room 5 _ := hr.mono (by decide)
    refine ⟨_, (pss_one (ps_if (pt_not (pt_val (pe_call G_is_edits hr5 rfl g_is_edits k_is_edits b_is_edits .nil pass0 (pa_cons (pv 0) pa_nil)))) (pss_one (ps_raise rfl (takes_of rfl rfl rfl rfl) (pmk_own PySem.F.excBase_ValueError T_NoEdits.ex T_NoEdits.g T_NoEdits.kp (raises_own T_NoEdits.ec.hs T_NoEdits.ty) rfl))) pss_nil)), ?_⟩
    unfold m_sure_edits at P
    have st := Stp.refl (W := []) w
    refine h_if ?_
    refine h_tnot ?_
    refine h_tB ?_
    refine h_call ?_
    refine h_cons ?_
    refine h_var rfl ?_
    refine h_nil ?_
    refine ⟨B0, v_thing, a_thing, w, rfl, ((r_thing.step st).w sub0), (P.bind.noErr).mono (fun x1 P => ?_) (fun _ z => z.elim)⟩
    refine fun v5 B2 H3 s4 r6 => ?_
    replace st := st.go s4 go0
    replace w := s4.ok
    cases r6
    refine h_bl ?_
    refine h_iteN (fun c1 => ?_) (fun c1 => ?_)
    · replace P := P.iteF c1
      exact P.err _ _ _ T_NoEdits.g st
    · replace P := P.iteT c1
      refine h_next ?_
      exact P.ok _ _ _ st Rep.non
theorem ok_sure_moment {f : Addr} {fd : FuncData}  (F : Fun K "sure_moment" "sure_moment" s_sure_moment f fd) {C_NoMoment : Addr} (T_NoMoment : ExcR K mg "NoMoment" C_NoMoment) {f_is_moment : Addr} {d_is_moment : FuncData} (g_is_moment : mg "is_moment" = some (.ref f_is_moment)) (k_is_moment : PySem.W.keepIn K (.ref f_is_moment) = true) (b_is_moment : L2.Binds K d_is_moment ["thing"] []) (G_is_moment : FnOk Pr wo K mg base CX0 3 f_is_moment d_is_moment ["thing"] (sp_is_moment K)) : FnOk Pr wo K mg base (L2.CX Pr wo) 4 f fd ["thing"] (sp_sure_moment K mg) := by
  refine F.okX sc_sure_moment (fun vs H Q E h => ?_) (fun cdv A outer s H0 vs Q E hr h => ?_)
  · obtain ⟨_, _, _, _, rfl, _⟩ := h; rfl
  · obtain ⟨B0, v_thing, a_thing, w, rfl, r_thing, P⟩ := h
    have w0 := w
    have hu := hu_of hr
    have hu64 := hu64_of hr
    have hr3 : Room 3 _ := hr.mono (by decide)
    refine ⟨_, (pss_one (ps_if (pt_not (pt_val (pe_call G_is_moment hr3 rfl g_is_moment k_is_moment b_is_moment .nil pass0 (pa_cons (pv 0) pa_nil)))) (pss_one (ps_raise rfl (takes_of rfl rfl rfl rfl) (pmk_own PySem.F.excBase_ValueError T_NoMoment.ex T_NoMoment.g T_NoMoment.kp (raises_own T_NoMoment.ec.hs T_NoMoment.ty) rfl))) pss_nil)), ?_⟩
    unfold m_sure_moment at P
    have st := Stp.refl (W := []) w
    refine h_if ?_
    refine h_tnot ?_
    refine h_tB ?_
    refine h_call ?_
    refine h_cons ?_
    refine h_var rfl ?_
    refine h_nil ?_
    refine ⟨B0, v_thing, a_thing, w, rfl, (r_thing.mono st.ex), (P.bind.noErr).mono (fun x1 P => ?_) (fun _ z => z.elim)⟩
    refine fun v5 B2 H3 s4 r6 => ?_
    replace st := st.go s4 go0
    replace w := s4.ok
    cases r6
    refine h_bl ?_
    refine h_iteN (fun c1 => ?_) (fun c1 => ?_)
    · replace P := P.iteF c1
      exact P.err _ _ _ T_NoMoment.g st
    · replace P := P.iteT c1
      refine h_next ?_
      exact P.ok _ _ _ st Rep.non
theorem ok_led_by {f : Addr} {fd : FuncData}  (F : Fun K "led_by" "led_by" s_led_by f fd) {f_plus : Addr} {d_plus : FuncData} (g_plus : mg "plus" = some (.ref f_plus)) (k_plus : PySem.W.keepIn K (.ref f_plus) = true) (b_plus : L2.Binds K d_plus ["one", "other"] []) (G_plus : FnOk Pr wo K mg base (L2.CX Pr wo) 3 f_plus d_plus ["one", "other"] (sp_plus K mg)) {f_times : Addr} {d_times : FuncData} (g_times : mg "times" = some (.ref f_times)) (k_times : PySem.W.keepIn K (.ref f_times) = true) (b_times : L2.Binds K d_times ["one", "other"] []) (G_times : FnOk Pr wo K mg base (L2.CX Pr wo) 3 f_times d_times ["one", "other"] (sp_times K mg)) : FnOk Pr wo K mg base (L2.CX Pr wo) 4 f fd ["edit", "later"] (sp_led_by K mg) := by
  refine F.okX sc_led_by (fun vs H Q E h => ?_) (fun cdv A outer s H0 vs Q E hr h => ?_)
  · obtain ⟨_, _, _, _, _, _, rfl, _⟩ := h; rfl
  · obtain ⟨B0, v_edit, a_edit, v_later, a_later, w, rfl, r_edit, r_later, P⟩ := h
    have w0 := w
    have hu := hu_of hr
    have hu64 := hu64_of hr
    have hr3 : Room 3 _ := hr.mono (by decide)
    refine ⟨_, (pss_cons (ps_if (pt_cmpR op_isNn (pe_ix (r := rIxT K) ix_tup (pv 0) pe_int (fun _ _ => rfl)) pe_non (nomark _)) (pss_one (ps_ret pe_non)) pss_nil)
      (pss_one (ps_ret (pe_callS G_plus hr3 rfl g_plus k_plus b_plus (fun σ => passAt (takes_of rfl rfl rfl rfl) σ) (pa_cons (pe_ix (r := rIxT K) ix_tup (pv 0) pe_int (fun _ _ => rfl)) (pa_cons (pe_callS G_times hr3 rfl g_times k_times b_times (fun σ => passAt (takes_of rfl rfl rfl rfl) σ) (pa_cons (pe_ix (r := rIxT K) ix_tup (pv 0) pe_int (fun _ _ => rfl)) (pa_cons (pv 1) pa_nil))) pa_nil)))))), ?_⟩
    unfold m_led_by at P
    have st := Stp.refl (W := []) w
    refine h_seq <| h_if ?_
    refine h_test ?_
    refine h_op ?_
    refine h_op ?_
    refine h_var rfl ?_
    refine h_c ?_
    obtain ⟨p1, xs2, rfl, hs3, hr4⟩ := Rep.st w (r_edit.mono st.ex)
    obtain ⟨u5, hu, r6⟩ := RepL.at hr4 (i := 1) rfl
    refine h_ixT hs3 hu ?_
    refine h_c ?_
    refine h_isN r6 ?_
    refine h_bl ?_
    refine h_ite (fun c1 => ?_) (fun c1 => ?_)
    · replace P := P.iteT c1
      refine h_ret ?_
      refine h_c ?_
      exact P.ok _ _ _ st Rep.non
    · replace P := P.iteF c1
      refine h_next ?_
      refine h_nx ?_
      refine h_ret ?_
      refine h_callS ?_
      refine h_cons ?_
      refine h_op ?_
      refine h_var rfl ?_
      refine h_c ?_
      obtain ⟨p7, xs8, hv, hs9, hr10⟩ := Rep.st w (r_edit.mono st.ex)
      cases hv
      obtain ⟨u11, hu, r12⟩ := RepL.at hr10 (i := 1) rfl
      refine h_ixT hs9 hu ?_
      refine h_cons ?_
      refine h_callS ?_
      refine h_cons ?_
      refine h_op ?_
      refine h_var rfl ?_
      refine h_c ?_
      obtain ⟨p13, xs14, hv, hs15, hr16⟩ := Rep.st w (r_edit.mono st.ex)
      cases hv
      obtain ⟨u17, hu, r18⟩ := RepL.at hr16 (i := 2) rfl
      refine h_ixT hs15 hu ?_
      refine h_cons ?_
      refine h_var rfl ?_
      refine h_nil ?_
      refine ⟨B0, u17, a_edit.c, v_later, a_later, w, rfl, r18, (r_later.mono st.ex), Post.mono2 P.bind (fun e25 P => ?_) (fun x19 P => ?_)⟩
      · skip
        exact fun C B' H' g s => P C B' H' g (st.go s go0)
      refine fun v23 B20 H21 s22 r24 => ?_
      replace r12 := r12.mono s22.ex
      replace r18 := r18.mono s22.ex
      replace st := st.go s22 go0
      replace w := s22.ok
      refine h_nil ?_
      obtain ⟨x26, hx27, P⟩ := P.some
      have rc28 := r12
      rw [hx27] at rc28
      replace rc28 : Rep K B20 u11 (enc x26) := rc28
      refine ⟨B20, u11, x26, v23, x19, w, rfl, rc28, r24, Post.mono2 P.bind (fun e35 P => ?_) (fun x29 P => ?_)⟩
      · skip
        exact fun C B' H' g s => P C B' H' g (st.go s go0)
      refine fun v33 B30 H31 s32 r34 => ?_
      replace r12 := r12.mono s32.ex
      replace r24 := r24.mono s32.ex
      replace st := st.go s32 go0
      replace w := s32.ok
      exact P.ok _ _ _ st r34
theorem ok_mapped {f : Addr} {fd : FuncData}  (F : Fun K "mapped" "mapped" s_mapped f fd) {f_sure_edits : Addr} {d_sure_edits : FuncData} (g_sure_edits : mg "sure_edits" = some (.ref f_sure_edits)) (k_sure_edits : PySem.W.keepIn K (.ref f_sure_edits) = true) (b_sure_edits : L2.Binds K d_sure_edits ["thing"] []) (G_sure_edits : FnOk Pr wo K mg base (L2.CX Pr wo) 6 f_sure_edits d_sure_edits ["thing"] (sp_sure_edits K mg)) {f_sure_moment : Addr} {d_sure_moment : FuncData} (g_sure_moment : mg "sure_moment" = some (.ref f_sure_moment)) (k_sure_moment : PySem.W.keepIn K (.ref f_sure_moment) = true) (b_sure_moment : L2.Binds K d_sure_moment ["thing"] []) (G_sure_moment : FnOk Pr wo K mg base (L2.CX Pr wo) 4 f_sure_moment d_sure_moment ["thing"] (sp_sure_moment K mg)) {f_less : Addr} {d_less : FuncData} (g_less : mg "less" = some (.ref f_less)) (k_less : PySem.W.keepIn K (.ref f_less) = true) (b_less : L2.Binds K d_less ["one", "other"] []) (G_less : FnOk Pr wo K mg base CX0 1 f_less d_less ["one", "other"] (sp_less K)) {f_minus : Addr} {d_minus : FuncData} (g_minus : mg "minus" = some (.ref f_minus)) (k_minus : PySem.W.keepIn K (.ref f_minus) = true) (b_minus : L2.Binds K d_minus ["one", "other"] []) (G_minus : FnOk Pr wo K mg base (L2.CX Pr wo) 3 f_minus d_minus ["one", "other"] (sp_minus K mg)) {f_led_by : Addr} {d_led_by : FuncData} (g_led_by : mg "led_by" = some (.ref f_led_by)) (k_led_by : PySem.W.keepIn K (.ref f_led_by) = true) (b_led_by : L2.Binds K d_led_by ["edit", "later"] []) (G_led_by : FnOk Pr wo K mg base (L2.CX Pr wo) 4 f_led_by d_led_by ["edit", "later"] (sp_led_by K mg)) : FnOk Pr wo K mg base (L2.CX Pr wo) 7 f fd ["edits", "t"] (sp_mapped K mg) := by
  refine F.okX sc_mapped (fun vs H Q E h => ?_) (fun cdv A outer s H0 vs Q E hr h => ?_)
  · obtain ⟨_, _, _, _, _, _, rfl, _⟩ := h; rfl
  · obtain ⟨B0, v_edits, a_edits, v_t, a_t, w, rfl, r_edits, r_t, P⟩ := h
    have w0 := w
    have hu := hu_of hr
    have hu64 := hu64_of hr
    have hr1 : Room 1 _ := hr.mono (by decide)
    have hr3 : Room 3 _ := hr.mono (by decide)
    have hr4 : Room 4 _ := hr.mono (by decide)
    have hr6 : Room 6 _ := hr.mono (by decide)
    refine ⟨_, (pss_cons (ps_expr (pe_callS G_sure_edits hr6 rfl g_sure_edits k_sure_edits b_sure_edits (fun σ => passAt (takes_of rfl rfl rfl rfl) σ) (pa_cons (pv 0) pa_nil)))
      (pss_cons (ps_expr (pe_callS G_sure_moment hr4 rfl g_sure_moment k_sure_moment b_sure_moment (fun σ => passAt (takes_of rfl rfl rfl rfl) σ) (pa_cons (pv 1) pa_nil)))
      (pss_cons (ps_set (i := 2) sc_mapped.nd rfl (by first | exact Or.inl rfl | exact Or.inr rfl) (pv 1))
      (pss_cons (ps_for (passes_of rfl) rfl (pi_list (pv 0)) (pg_name (i := 3) sc_mapped.nd rfl (by first | exact Or.inl rfl | exact Or.inr rfl)) (pss_cons (ps_if (pt_val (pe_call G_less hr1 rfl g_less k_less b_less .nil pass0 (pa_cons (pv 2) (pa_cons (pe_ix (r := rIxT K) ix_tup (pv 3) pe_int (fun _ _ => rfl)) pa_nil)))) (pss_one (ps_ret (pe_callS G_led_by hr4 rfl g_led_by k_led_by b_led_by (fun σ => passAt (takes_of rfl rfl rfl rfl) σ) (pa_cons (pv 3) (pa_cons (pv 2) pa_nil))))) pss_nil)
      (pss_one (ps_set (i := 2) sc_mapped.nd rfl (by first | exact Or.inl rfl | exact Or.inr rfl) (pe_callS G_minus hr3 rfl g_minus k_minus b_minus (fun σ => passAt (takes_of rfl rfl rfl rfl) σ) (pa_cons (pv 2) (pa_cons (pe_ix (r := rIxT K) ix_tup (pv 3) pe_int (fun _ _ => rfl)) pa_nil)))))))
      (pss_one (ps_ret pe_non)))))), ?_⟩
    unfold m_mapped at P
    have st := Stp.refl (W := []) w
    refine h_seq ?_
    refine h_drop ?_
    refine h_callS ?_
    refine h_cons ?_
    refine h_var rfl ?_
    refine h_nil ?_
    refine ⟨B0, v_edits, a_edits, w, rfl, ((r_edits.step st).w sub0), Post.mono2 P.bind (fun e7 P => ?_) (fun x1 P => ?_)⟩
    · skip
      exact fun C B' H' g s => P C B' H' g (st.go s go0)
    refine fun v5 B2 H3 s4 r6 => ?_
    replace st := st.go s4 go0
    replace w := s4.ok
    cases r6
    refine h_nx ?_
    refine h_seq ?_
    refine h_drop ?_
    refine h_callS ?_
    refine h_cons ?_
    refine h_var rfl ?_
    refine h_nil ?_
    refine ⟨B2, v_t, (enc a_t), w, rfl, (r_t.mono st.ex), Post.mono2 P.bind (fun e14 P => ?_) (fun x8 P => ?_)⟩
    · skip
      exact fun C B' H' g s => P C B' H' g (st.go s go0)
    refine fun v12 B9 H10 s11 r13 => ?_
    replace st := st.go s11 go0
    replace w := s11.ok
    cases r13
    refine h_nx ?_
    refine h_set ?_
    refine h_var rfl ?_
    refine h_seq ?_
    refine h_forE ?_
    refine h_var rfl ?_
    obtain ⟨p15, xs16, rfl, hr18, hb17⟩ := Bor.sq0 r_edits
    have wj20 := w
    have sj19 := Stp.refl (W := []) w
    refine h_forL P (hb17 _ _ st) (hr18.mono st.ex) (fun (a : (Tp2 Int Int)) σ' H' => ∃ (B' : Hp) (v0 : V) (o_edit : Option V), Stp [] B9 H10 B' H' ∧ σ' = [some ((.ref p15)), some (v_t), some v0, o_edit] ∧ Rep K B' v0 (enc a)) ⟨_, v_t, _, sj19, rfl, (r_t.mono st.ex)⟩ (fun _ _ _ j => ?_) ?_ ?_
    · obtain ⟨B30, v33, o35, s32, rfl, r34⟩ := j
      exact hb17 _ _ (st.go s32 go0)
    · rintro N21 T22 x27 v28 a26 _ H31 ⟨B30, v33, o35, s32, rfl, r34⟩ r29 kk23 kr24 kb25 P
      replace st := st.go s32 go0
      replace w := s32.ok
      have sj19 := s32
      replace r29 := r29.mono sj19.ex
      refine h_gname ?_
      refine h_seq <| h_if ?_
      refine h_tB ?_
      refine h_call ?_
      refine h_cons ?_
      refine h_var rfl ?_
      refine h_cons ?_
      refine h_op ?_
      refine h_var rfl ?_
      refine h_c ?_
      obtain ⟨p36, xs37, rfl, hs38, hr39⟩ := Rep.st w r29
      obtain ⟨u40, hu, r41⟩ := RepL.at hr39 (i := 0) rfl
      refine h_ixT hs38 hu ?_
      refine h_nil ?_
      refine ⟨B30, v33, a26, u40, x27.a, w, rfl, r34, r41, (P.bind.noErr).mono (fun x42 P => ?_) (fun _ z => z.elim)⟩
      refine fun v46 B43 H44 s45 r47 => ?_
      replace r34 := r34.mono s45.ex
      replace r29 := r29.mono s45.ex
      replace r41 := r41.mono s45.ex
      replace st := st.go s45 go0
      replace sj19 := sj19.go s45 go0
      replace w := s45.ok
      cases r47
      refine h_bl ?_
      refine h_ite (fun c1 => ?_) (fun c1 => ?_)
      · replace P := P.iteT c1
        refine h_ret ?_
        refine h_callS ?_
        refine h_cons ?_
        refine h_var rfl ?_
        refine h_cons ?_
        refine h_var rfl ?_
        refine h_nil ?_
        refine ⟨B43, (.ref p36), x27, v33, a26, w, rfl, r29, r34, Post.mono2 P.bind (fun e54 P => ?_) (fun x48 P => ?_)⟩
        · skip
          exact fun C B' H' g s => P C B' H' g (st.go s go0)
        refine fun v52 B49 H50 s51 r53 => ?_
        replace r34 := r34.mono s51.ex
        replace r29 := r29.mono s51.ex
        replace st := st.go s51 go0
        replace sj19 := sj19.go s51 go0
        replace w := s51.ok
        exact (kr24 _ P.ok) _ _ _ st r53
      · replace P := P.iteF c1
        refine h_next ?_
        refine h_nx ?_
        refine h_set1 ?_
        refine h_callS ?_
        refine h_cons ?_
        refine h_var rfl ?_
        refine h_cons ?_
        refine h_op ?_
        refine h_var rfl ?_
        refine h_c ?_
        obtain ⟨p55, xs56, hv, hs57, hr58⟩ := Rep.st w r29
        cases hv
        obtain ⟨u59, hu, r60⟩ := RepL.at hr58 (i := 0) rfl
        refine h_ixT hs57 hu ?_
        refine h_nil ?_
        refine ⟨B43, v33, a26, u59, x27.a, w, rfl, r34, r60, Post.mono2 P.bind (fun e67 P => ?_) (fun x61 P => ?_)⟩
        · skip
          exact fun C B' H' g s => P C B' H' g (st.go s go0)
        refine fun v65 B62 H63 s64 r66 => ?_
        replace r34 := r34.mono s64.ex
        replace r29 := r29.mono s64.ex
        replace r60 := r60.mono s64.ex
        replace st := st.go s64 go0
        replace sj19 := sj19.go s64 go0
        replace w := s64.ok
        refine h_nx ?_
        exact kk23 x61 _ _ ⟨_, v65, _, sj19, rfl, r66⟩ P.ok
    · rintro a68 _ H70 ⟨B69, v72, o74, s71, rfl, r73⟩ P
      replace st := st.go s71 go0
      replace w := s71.ok
      refine h_nx ?_
      refine h_ret ?_
      refine h_c ?_
      exact P.ok _ _ _ st Rep.non
theorem ok_borders_of {f : Addr} {fd : FuncData}  (F : Fun K "borders_of" "borders_of" s_borders_of f fd) {C_NOUGHT : Addr} (c_NOUGHT : CT K mg "NOUGHT" C_NOUGHT (⟨0, 1⟩ : (Tp2 Int Int))) {f_plus : Addr} {d_plus : FuncData} (g_plus : mg "plus" = some (.ref f_plus)) (k_plus : PySem.W.keepIn K (.ref f_plus) = true) (b_plus : L2.Binds K d_plus ["one", "other"] []) (G_plus : FnOk Pr wo K mg base (L2.CX Pr wo) 3 f_plus d_plus ["one", "other"] (sp_plus K mg)) : FnOk Pr wo K mg base (L2.CX Pr wo) 4 f fd ["edits"] (sp_borders_of K mg) := by
  refine F.okX sc_borders_of (fun vs H Q E h => ?_) (fun cdv A outer s H0 vs Q E hr h => ?_)
  · obtain ⟨_, _, _, _, rfl, _⟩ := h; rfl
  · obtain ⟨B0, v_edits, a_edits, w, rfl, r_edits, P⟩ := h
    have w0 := w
    have hu := hu_of hr
    have hu64 := hu64_of hr
    have hr3 : Room 3 _ := hr.mono (by decide)
    refine ⟨_, (pss_cons (ps_set (i := 1) sc_borders_of.nd rfl (by first | exact Or.inl rfl | exact Or.inr rfl) (pe_lst (pa_cons (pe_glob (v := .ref C_NOUGHT) (by rfl) c_NOUGHT.g rfl) pa_nil)))
      (pss_cons (ps_for (passes_of rfl) rfl (pi_list (pv 0)) (pg_name (i := 2) sc_borders_of.nd rfl (by first | exact Or.inl rfl | exact Or.inr rfl)) (pss_one (ps_expr (pe_bm PySem.F.plainAttrs_list PySem.F.slot_list_append PySem.F.type_list_append mt_append (pv 1) (pa_cons (pe_callS G_plus hr3 rfl g_plus k_plus b_plus (fun σ => passAt (takes_of rfl rfl rfl rfl) σ) (pa_cons (pe_ix (r := rIxL K) ix_list (pv 1) (pe_un un_neg pe_int) (fun _ _ => rfl)) (pa_cons (pe_ix (r := rIxT K) ix_tup (pv 2) pe_int (fun _ _ => rfl)) pa_nil))) pa_nil)))))
      (pss_one (ps_ret (pv 1))))), ?_⟩
    unfold m_borders_of at P
    have st := Stp.refl (W := []) w
    refine h_set ?_
    refine h_lst ?_
    refine h_cons ?_
    refine h_c ?_
    have r1 := c_NOUGHT.rep B0
    refine h_nil ?_
    refine h_newM w (ds := (([(⟨0, 1⟩ : (Tp2 Int Int))] : List (Tp2 Int Int))).map enc) (K := K) (.cons r1 .nil) (fun p2 H3 hn6 s4 m5 => ?_) (by show 1 ≤ sizeLine; decide)
    have n7 := st.nn hn6
    replace st := st.go s4 go0
    replace w := s4.ok
    refine h_seq ?_
    refine h_forE ?_
    refine h_var rfl ?_
    obtain ⟨p8, xs9, rfl, hr11, hb10⟩ := Bor.sq0 r_edits
    have wj13 := w
    have sj12 := Stp.refl (W := [p2]) w
    refine h_forL P (hb10 _ _ st) (hr11.mono st.ex) (fun (a : (List (Tp2 Int Int))) σ' H' => ∃ (B' : Hp) (o_edit : Option V), Stp [p2] B0 H3 B' H' ∧ σ' = [some ((.ref p8)), some ((.ref p2)), o_edit] ∧ Mu K B' H' p2 (a.map enc)) ⟨_, _, sj12, rfl, m5⟩ (fun _ _ _ j => ?_) ?_ ?_
    · obtain ⟨B23, o26, s25, rfl, m5⟩ := j
      exact hb10 _ _ (st.go s25 (go1 (.inr n7)))
    · rintro N14 T15 x20 v21 a19 _ H24 ⟨B23, o26, s25, rfl, m5⟩ r22 kk16 kr17 kb18 P
      replace st := st.go s25 (go1 (.inr n7))
      replace w := s25.ok
      have sj12 := s25
      replace r22 := r22.mono sj12.ex
      refine h_gname ?_
      refine h_drop ?_
      refine h_bm ?_
      refine h_var rfl ?_
      refine h_bmL m5 ?_
      refine h_cons ?_
      refine h_callS ?_
      refine h_cons ?_
      refine h_op ?_
      refine h_var rfl ?_
      refine h_un ?_
      refine h_c ?_
      refine h_U ?_
      obtain ⟨xs28, hv, hs29, hr30⟩ := Mu.sq m5
      obtain ⟨x31, hx32, P⟩ := P.ix
      obtain ⟨u33, hu, r34⟩ := RepL.atE hr30 hx32
      refine h_ixL hs29 hu ?_
      refine h_cons ?_
      refine h_op ?_
      refine h_var rfl ?_
      refine h_c ?_
      obtain ⟨p35, xs36, rfl, hs37, hr38⟩ := Rep.st w r22
      obtain ⟨u39, hu, r40⟩ := RepL.at hr38 (i := 0) rfl
      refine h_ixT hs37 hu ?_
      refine h_nil ?_
      refine ⟨B23, u33, x31, u39, x20.a, w, rfl, r34, r40, Post.mono2 P.bind (fun e47 P => ?_) (fun x41 P => ?_)⟩
      · skip
        exact fun C B' H' g s => P C B' H' g (st.go s go0)
      refine fun v45 B42 H43 s44 r46 => ?_
      replace m5 := m5.step s44 nm0
      replace r22 := r22.mono s44.ex
      replace r34 := r34.mono s44.ex
      replace r40 := r40.mono s44.ex
      replace st := st.go s44 go0
      replace sj12 := sj12.go s44 go0
      replace w := s44.ok
      refine h_nil ?_
      obtain ⟨gd, P⟩ := P.guard
      refine h_append (b := x41) w m5 r46 gd (fun H48 s49 m5 => ?_)
      replace r22 := r22.mono s49.ex
      replace st := st.go s49 (go1 (.inr n7))
      replace sj12 := sj12.go s49 (go1 (.inl (by simp)))
      replace w := s49.ok
      refine h_nx ?_
      exact kk16 (a19 ++ [x41]) _ _ ⟨_, _, sj12, rfl, m5⟩ P.ok
    · rintro a50 _ H52 ⟨B51, o54, s53, rfl, m5⟩ P
      replace st := st.go s53 (go1 (.inr n7))
      replace w := s53.ok
      refine h_nx ?_
      refine h_ret ?_
      refine h_var rfl ?_
      obtain ⟨B59, e55, k56, g57, r58⟩ := Mu.keep m5
      replace st := g57 _ _ _ st w0 n7
      replace w := st.ok
      replace r58 : Rep K B59 (.ref p2) (enc a50) := r58
      exact P.ok _ _ _ st r58
theorem ok_joined_borders {f : Addr} {fd : FuncData}  (F : Fun K "joined_borders" "joined_borders" s_joined_borders f fd) {f_less : Addr} {d_less : FuncData} (g_less : mg "less" = some (.ref f_less)) (k_less : PySem.W.keepIn K (.ref f_less) = true) (b_less : L2.Binds K d_less ["one", "other"] []) (G_less : FnOk Pr wo K mg base CX0 1 f_less d_less ["one", "other"] (sp_less K)) (bI_len : mg "len" = none) : FnOk Pr wo K mg base CX0 2 f fd ["one", "other"] (sp_joined_borders K) := by
  refine F.ok sc_joined_borders (fun vs H Q E h => ?_) (fun cdv A outer s H0 vs Q E hr h => ?_)
  · obtain ⟨_, _, _, _, _, _, rfl, _⟩ := h; rfl
  · obtain ⟨B0, v_one, a_one, v_other, a_other, w, rfl, r_one, r_other, P⟩ := h
    have w0 := w
    have hu := hu_of hr
    have hu64 := hu64_of hr
    have hr1 : Room 1 _ := hr.mono (by decide)
    refine ⟨_, (pss_cons (ps_set (i := 2) sc_joined_borders.nd rfl (by first | exact Or.inl rfl | exact Or.inr rfl) (pe_lst pa_nil))
      (pss_cons (ps_set (i := 3) sc_joined_borders.nd rfl (by first | exact Or.inl rfl | exact Or.inr rfl) pe_int)
      (pss_cons (ps_for PassesOwn.never rfl (pi_list (pv 0)) (pg_name (i := 4) sc_joined_borders.nd rfl (by first | exact Or.inl rfl | exact Or.inr rfl)) (pss_cons (ps_while PassesOwn.never (PW.pt (pw_and (pt_cmpR op_lt (pv 3) (pe_callB (r := rLenY K) cr_len (by rfl) bI_len PySem.boot_len (pa_cons (pv 1) pa_nil)) (nomark _)) (pw_and1 (pt_val (pe_call G_less hr1 rfl g_less k_less b_less .nil pass0 (pa_cons (pe_ix (r := rIxL K) ix_list (pv 1) (pv 3) (fun _ _ => rfl)) (pa_cons (pv 4) pa_nil))))))) (pss_cons (ps_expr (pe_bm PySem.F.plainAttrs_list PySem.F.slot_list_append PySem.F.type_list_append mt_append (pv 2) (pa_cons (pe_ix (r := rIxL K) ix_list (pv 1) (pv 3) (fun _ _ => rfl)) pa_nil)))
      (pss_one (ps_set (i := 3) sc_joined_borders.nd rfl (by first | exact Or.inl rfl | exact Or.inr rfl) (pe_op op_add (pv 3) pe_int)))))
      (pss_cons (ps_if (PW.pt (pw_and (pt_cmpR op_lt (pv 3) (pe_callB (r := rLenY K) cr_len (by rfl) bI_len PySem.boot_len (pa_cons (pv 1) pa_nil)) (nomark _)) (pw_and1 (pt_cmpR (r := rEqD K) (op_eqD hu64) (pe_ix (r := rIxL K) ix_list (pv 1) (pv 3) (fun _ _ => rfl)) (pv 4) (nomark _))))) (pss_one (ps_set (i := 3) sc_joined_borders.nd rfl (by first | exact Or.inl rfl | exact Or.inr rfl) (pe_op op_add (pv 3) pe_int))) pss_nil)
      (pss_one (ps_expr (pe_bm PySem.F.plainAttrs_list PySem.F.slot_list_append PySem.F.type_list_append mt_append (pv 2) (pa_cons (pv 4) pa_nil)))))))
      (pss_one (ps_ret (pe_op (r := rCatQ K) op_catQ (pv 2) (pe_slice (r := rSlQ K) sl_Q (pv 1) (po_some (pv 3)) po_none))))))), ?_⟩
    unfold m_joined_borders at P
    have st := Stp.refl (W := []) w
    refine h_set ?_
    refine h_lst ?_
    refine h_nil ?_
    refine h_newM w (ds := (([] : List (Tp2 Int Int))).map enc) (K := K) .nil (fun p1 H2 hn5 s3 m4 => ?_) (by show 0 ≤ sizeLine; decide)
    have n6 := st.nn hn5
    replace st := st.go s3 go0
    replace w := s3.ok
    refine h_set ?_
    refine h_c ?_
    refine h_seq ?_
    refine h_forE ?_
    refine h_var rfl ?_
    obtain ⟨p7, xs8, rfl, hb9, hr10⟩ := Rep.sqB (r_one.mono st.ex)
    have wj12 := w
    have sj11 := Stp.refl (W := [p1]) w
    refine h_forL P (w.l hb9) hr10 (fun (a : Int × (List (Tp2 Int Int))) σ' H' => ∃ (B' : Hp) (o_border : Option V), Stp [p1] B0 H2 B' H' ∧ σ' = [some ((.ref p7)), some (v_other), some ((.ref p1)), some (.int a.1), o_border] ∧ Mu K B' H' p1 (a.2.map enc)) ⟨_, _, sj11, rfl, m4⟩ (fun _ _ _ j => ?_) ?_ ?_
    · obtain ⟨B22, o25, s24, rfl, m4⟩ := j
      exact s24.ok.l (s24.ex.l hb9)
    · rintro N13 T14 x19 v20 a18 _ H23 ⟨B22, o25, s24, rfl, m4⟩ r21 kk15 kr16 kb17 P
      replace st := st.go s24 (go1 (.inr n6))
      replace w := s24.ok
      have sj11 := s24
      replace r21 := r21.mono sj11.ex
      refine h_gname ?_
      refine h_seq ?_
      have wj27 := w
      have sj26 := Stp.refl (W := [p1]) w
      refine h_while P (fun (a : Int × (List (Tp2 Int Int))) σ' H' => ∃ (B' : Hp), Stp [p1] B22 H23 B' H' ∧ σ' = [some ((.ref p7)), some (v_other), some ((.ref p1)), some (.int a.1), some (v20)] ∧ Mu K B' H' p1 (a.2.map enc)) ⟨_, sj26, rfl, m4⟩ ?_ ?_
      · rintro N28 C29 T30 a35 _ H37 ⟨B36, s38, rfl, m4⟩ kn31 kk32 kr33 kb34 P
        replace r21 := r21.mono s38.ex
        replace st := st.go s38 (go1 (.inr n6))
        replace sj11 := sj11.go s38 (go1 (.inl (by simp)))
        replace w := s38.ok
        have sj26 := s38
        refine h_tand ?_
        refine h_test ?_
        refine h_op ?_
        refine h_var rfl ?_
        refine h_cb ?_
        refine h_cons ?_
        refine h_var rfl ?_
        refine h_nil ?_
        obtain ⟨p39, xs40, rfl, hs41, hr42⟩ := Rep.sq w (r_other.mono st.ex)
        refine h_len hs41 hr42 ?_
        refine h_I0 ?_
        refine h_bl ?_
        refine h_ite (fun c1 => ?_) (fun c1 => ?_)
        · replace P := P.iteT c1
          refine h_tB ?_
          refine h_call ?_
          refine h_cons ?_
          refine h_op ?_
          refine h_var rfl ?_
          refine h_var rfl ?_
          obtain ⟨p43, xs44, hv, hs45, hr46⟩ := Rep.sq w (r_other.mono st.ex)
          cases hv
          obtain ⟨x47, hx48, P⟩ := P.ix
          obtain ⟨u49, hu, r50⟩ := RepL.atE hr46 hx48
          refine h_ixL hs45 hu ?_
          refine h_cons ?_
          refine h_var rfl ?_
          refine h_nil ?_
          refine ⟨B36, u49, x47, v20, x19, w, rfl, r50, r21, (P.bind).mono (fun x51 P => ?_) (fun _ z => z)⟩
          refine fun v55 B52 H53 s54 r56 => ?_
          replace m4 := m4.step s54 nm0
          replace r21 := r21.mono s54.ex
          replace r50 := r50.mono s54.ex
          replace st := st.go s54 go0
          replace sj11 := sj11.go s54 go0
          replace sj26 := sj26.go s54 go0
          replace w := s54.ok
          cases r56
          refine h_bl ?_
          refine h_ite (fun c1 => ?_) (fun c1 => ?_)
          · replace P := P.iteT c1
            refine ⟨N28, kn31, ?_⟩
            refine h_seq ?_
            refine h_drop ?_
            refine h_bm ?_
            refine h_var rfl ?_
            refine h_bmL m4 ?_
            refine h_cons ?_
            refine h_op ?_
            refine h_var rfl ?_
            refine h_var rfl ?_
            obtain ⟨p57, xs58, hv, hs59, hr60⟩ := Rep.sq w (r_other.mono st.ex)
            cases hv
            obtain ⟨x61, hx62, P⟩ := P.ix
            obtain ⟨u63, hu, r64⟩ := RepL.atE hr60 hx62
            refine h_ixL hs59 hu ?_
            refine h_nil ?_
            obtain ⟨gd, P⟩ := P.guard
            refine h_append (b := x61) w m4 r64 gd (fun H65 s66 m4 => ?_)
            replace r21 := r21.mono s66.ex
            replace st := st.go s66 (go1 (.inr n6))
            replace sj11 := sj11.go s66 (go1 (.inl (by simp)))
            replace sj26 := sj26.go s66 (go1 (.inl (by simp)))
            replace w := s66.ok
            refine h_nx ?_
            refine h_set1 ?_
            refine h_op ?_
            refine h_var rfl ?_
            refine h_c ?_
            refine h_I0 ?_
            replace P := P.lt
            generalize hx : (a35.1 + 1) = x67 at P ⊢
            refine h_nx ?_
            exact kk32 (x67, (a35.2 ++ [x61])) _ _ ⟨_, sj26, rfl, m4⟩ P.ok
          · replace P := P.iteF c1
            exact kb34 (a35.1, a35.2) _ _ ⟨_, sj26, rfl, m4⟩ P.ok
        · replace P := P.iteF c1
          refine h_iteF ?_
          exact kb34 (a35.1, a35.2) _ _ ⟨_, sj26, rfl, m4⟩ P.ok
      · rintro a68 _ H70 ⟨B69, s71, rfl, m4⟩ P
        replace r21 := r21.mono s71.ex
        replace st := st.go s71 (go1 (.inr n6))
        replace sj11 := sj11.go s71 (go1 (.inl (by simp)))
        replace w := s71.ok
        refine h_nx ?_
        have wj73 := w
        have sj72 := Stp.refl (W := []) w
        refine h_joinS P (fun (a : Int) σ' H' => ∃ (B' : Hp), Stp [] B69 H70 B' H' ∧ σ' = [some ((.ref p7)), some (v_other), some ((.ref p1)), some (.int a), some (v20)]) (fun N kk74 P => h_if ?_) ?_
        · skip
          have wj76 := w
          have sj75 := Stp.refl (W := []) w
          refine h_condJ P (fun H' => ∃ B', Stp [] B69 H70 B' H') (fun N kk77 P => ?_) ?_
          · skip
            refine h_tand ?_
            refine h_test ?_
            refine h_op ?_
            refine h_var rfl ?_
            refine h_cb ?_
            refine h_cons ?_
            refine h_var rfl ?_
            refine h_nil ?_
            obtain ⟨p78, xs79, rfl, hs80, hr81⟩ := Rep.sq w (r_other.mono st.ex)
            refine h_len hs80 hr81 ?_
            refine h_I0 ?_
            refine h_bl ?_
            refine h_ite (fun c1 => ?_) (fun c1 => ?_)
            · replace P := P.iteT c1
              refine h_test ?_
              refine h_op ?_
              refine h_op ?_
              refine h_var rfl ?_
              refine h_var rfl ?_
              obtain ⟨p82, xs83, hv, hs84, hr85⟩ := Rep.sq w (r_other.mono st.ex)
              cases hv
              obtain ⟨x86, hx87, P⟩ := P.ix
              obtain ⟨u88, hu, r89⟩ := RepL.atE hr85 hx87
              refine h_ixL hs84 hu ?_
              refine h_var rfl ?_
              obtain ⟨gd, P⟩ := P.guard
              refine h_eqD (d := (enc x86)) (e := (enc x19)) w r89 r21 gd ?_
              refine h_bl ?_
              exact kk77 _ _ ⟨_, sj75⟩ P.ok
            · replace P := P.iteF c1
              exact kk77 _ _ ⟨_, sj75⟩ P.ok
          rintro b90 H92 ⟨B91, s93⟩ P
          replace m4 := m4.step s93 nm0
          replace r21 := r21.mono s93.ex
          replace st := st.go s93 go0
          replace sj11 := sj11.go s93 go0
          replace sj72 := sj72.go s93 go0
          replace w := s93.ok
          refine h_ite (fun c1 => ?_) (fun c1 => ?_)
          · replace P := P.iteT c1
            refine h_set1 ?_
            refine h_op ?_
            refine h_var rfl ?_
            refine h_c ?_
            refine h_I0 ?_
            replace P := P.lt
            generalize hx : (a68.1 + 1) = x94 at P ⊢
            refine h_nx ?_
            exact kk74 x94 _ _ ⟨_, sj72, rfl⟩ P.ok
          · replace P := P.iteF c1
            refine h_next ?_
            refine h_nx ?_
            exact kk74 a68.1 _ _ ⟨_, sj72, rfl⟩ P.ok
        rintro a95 _ H97 ⟨B96, s98, rfl⟩ P
        replace m4 := m4.step s98 nm0
        replace r21 := r21.mono s98.ex
        replace st := st.go s98 go0
        replace sj11 := sj11.go s98 go0
        replace w := s98.ok
        refine h_drop ?_
        refine h_bm ?_
        refine h_var rfl ?_
        refine h_bmL m4 ?_
        refine h_cons ?_
        refine h_var rfl ?_
        refine h_nil ?_
        obtain ⟨gd, P⟩ := P.guard
        refine h_append (b := x19) w m4 r21 gd (fun H99 s100 m4 => ?_)
        replace r21 := r21.mono s100.ex
        replace st := st.go s100 (go1 (.inr n6))
        replace sj11 := sj11.go s100 (go1 (.inl (by simp)))
        replace w := s100.ok
        refine h_nx ?_
        exact kk15 (a95, (a68.2 ++ [x19])) _ _ ⟨_, _, sj11, rfl, m4⟩ P.ok
    · rintro a101 _ H103 ⟨B102, o105, s104, rfl, m4⟩ P
      replace st := st.go s104 (go1 (.inr n6))
      replace w := s104.ok
      refine h_nx ?_
      refine h_ret ?_
      refine h_op ?_
      refine h_var rfl ?_
      refine h_sl ?_
      refine h_var rfl ?_
      refine h_part ?_
      refine h_var rfl ?_
      refine h_isI ?_
      refine h_nopart ?_
      obtain ⟨p106, xs107, rfl, hs108, hr109⟩ := Rep.sq w (r_other.mono st.ex)
      refine h_slQ hs108 ?_
      refine h_nwL w (ds := ((cutL a_other (some a101.1) none)).map enc) (K := K) (hr109.cut (some a101.1) none) (fun p110 B111 H112 s113 r114 => ?_) 
      replace m4 := m4.step s113 nm0
      replace st := st.go s113 go0
      replace w := s113.ok
      replace r114 : Rep K B111 (.ref p110) (enc (cutL a_other (some a101.1) none)) := r114
      obtain ⟨xs116, hv, hs117, hr118⟩ := Mu.sq m4
      obtain ⟨p119, xs120, hv, hs121, hr122⟩ := Rep.sq w r114
      cases hv
      obtain ⟨gd, P⟩ := P.guard
      refine h_cat hs117 hs121 (by have g := gd; simp only [hr118.length, hr122.length, List.length_map] at g ⊢; exact Nat.le_trans g (by decide)) ?_
      refine h_nwL w (ds := ((a101.2 ++ (cutL a_other (some a101.1) none))).map enc) (K := K) (RepL.cat hr118 hr122) (fun p123 B124 H125 s126 r127 => ?_) 
      replace m4 := m4.step s126 nm0
      replace st := st.go s126 go0
      replace w := s126.ok
      replace r127 : Rep K B124 (.ref p123) (enc (a101.2 ++ (cutL a_other (some a101.1) none))) := r127
      exact P.ok _ _ _ st r127
theorem ok_parted {f : Addr} {fd : FuncData}  (F : Fun K "parted" "parted" s_parted f fd) {f_sure_edits : Addr} {d_sure_edits : FuncData} (g_sure_edits : mg "sure_edits" = some (.ref f_sure_edits)) (k_sure_edits : PySem.W.keepIn K (.ref f_sure_edits) = true) (b_sure_edits : L2.Binds K d_sure_edits ["thing"] []) (G_sure_edits : FnOk Pr wo K mg base (L2.CX Pr wo) 6 f_sure_edits d_sure_edits ["thing"] (sp_sure_edits K mg)) {f_joined_borders : Addr} {d_joined_borders : FuncData} (g_joined_borders : mg "joined_borders" = some (.ref f_joined_borders)) (k_joined_borders : PySem.W.keepIn K (.ref f_joined_borders) = true) (b_joined_borders : L2.Binds K d_joined_borders ["one", "other"] []) (G_joined_borders : FnOk Pr wo K mg base CX0 2 f_joined_borders d_joined_borders ["one", "other"] (sp_joined_borders K)) {f_borders_of : Addr} {d_borders_of : FuncData} (g_borders_of : mg "borders_of" = some (.ref f_borders_of)) (k_borders_of : PySem.W.keepIn K (.ref f_borders_of) = true) (b_borders_of : L2.Binds K d_borders_of ["edits"] []) (G_borders_of : FnOk Pr wo K mg base (L2.CX Pr wo) 4 f_borders_of d_borders_of ["edits"] (sp_borders_of K mg)) {f_shared : Addr} {d_shared : FuncData} (g_shared : mg "shared" = some (.ref f_shared)) (k_shared : PySem.W.keepIn K (.ref f_shared) = true) (b_shared : L2.Binds K d_shared ["one", "other"] []) (G_shared : FnOk Pr wo K mg base (L2.CX Pr wo) 3 f_shared d_shared ["one", "other"] (sp_shared K mg)) {f_plus : Addr} {d_plus : FuncData} (g_plus : mg "plus" = some (.ref f_plus)) (k_plus : PySem.W.keepIn K (.ref f_plus) = true) (b_plus : L2.Binds K d_plus ["one", "other"] []) (G_plus : FnOk Pr wo K mg base (L2.CX Pr wo) 3 f_plus d_plus ["one", "other"] (sp_plus K mg)) {f_mapped : Addr} {d_mapped : FuncData} (g_mapped : mg "mapped" = some (.ref f_mapped)) (k_mapped : PySem.W.keepIn K (.ref f_mapped) = true) (b_mapped : L2.Binds K d_mapped ["edits", "t"] []) (G_mapped : FnOk Pr wo K mg base (L2.CX Pr wo) 7 f_mapped d_mapped ["edits", "t"] (sp_mapped K mg)) (bI_enumerate : mg "enumerate" = none) : FnOk Pr wo K mg base (L2.CX Pr wo) 8 f fd ["one", "other"] (sp_parted K mg) := by
  refine F.okX sc_parted (fun vs H Q E h => ?_) (fun cdv A outer s H0 vs Q E hr h => ?_)
  · obtain ⟨_, _, _, _, _, _, rfl, _⟩ := h; rfl
  · obtain ⟨B0, v_one, a_one, v_other, a_other, w, rfl, r_one, r_other, P⟩ := h
    have w0 := w
    have hu := hu_of hr
    have hu64 := hu64_of hr
    have hr2 : Room 2 _ := hr.mono (by decide)
    have hr3 : Room 3 _ := hr.mono (by decide)
    have hr4 : Room 4 _ := hr.mono (by decide)
    have hr6 : Room 6 _ := hr.mono (by decide)
    have hr7 : Room 7 _ := hr.mono (by decide)
    refine ⟨_, (pss_cons (ps_expr (pe_callS G_sure_edits hr6 rfl g_sure_edits k_sure_edits b_sure_edits (fun σ => passAt (takes_of rfl rfl rfl rfl) σ) (pa_cons (pv 0) pa_nil)))
      (pss_cons (ps_expr (pe_callS G_sure_edits hr6 rfl g_sure_edits k_sure_edits b_sure_edits (fun σ => passAt (takes_of rfl rfl rfl rfl) σ) (pa_cons (pv 1) pa_nil)))
      (pss_cons (ps_set (i := 2) sc_parted.nd rfl (by first | exact Or.inl rfl | exact Or.inr rfl) (pe_call G_joined_borders hr2 rfl g_joined_borders k_joined_borders b_joined_borders .nil pass0 (pa_cons (pe_callS G_borders_of hr4 rfl g_borders_of k_borders_of b_borders_of (fun σ => passAt (takes_of rfl rfl rfl rfl) σ) (pa_cons (pv 0) pa_nil)) (pa_cons (pe_callS G_borders_of hr4 rfl g_borders_of k_borders_of b_borders_of (fun σ => passAt (takes_of rfl rfl rfl rfl) σ) (pa_cons (pv 1) pa_nil)) pa_nil))))
      (pss_cons (ps_for (passes_of rfl) rfl (pi_enum (by rfl) bI_enumerate (pa_cons (pe_slice (r := rSlQ K) sl_Q (pv 2) po_none (po_some (pe_un un_neg pe_int))) pa_nil)) (pg_tupK (K := K) (n := 2) rfl rfl (pgs_cons (pg_name (i := 3) sc_parted.nd rfl (by first | exact Or.inl rfl | exact Or.inr rfl)) (pgs_cons (pg_name (i := 4) sc_parted.nd rfl (by first | exact Or.inl rfl | exact Or.inr rfl)) pgs_nil))) (pss_cons (ps_set (i := 5) sc_parted.nd rfl (by first | exact Or.inl rfl | exact Or.inr rfl) (pe_callS G_shared hr3 rfl g_shared k_shared b_shared (fun σ => passAt (takes_of rfl rfl rfl rfl) σ) (pa_cons (pe_callS G_plus hr3 rfl g_plus k_plus b_plus (fun σ => passAt (takes_of rfl rfl rfl rfl) σ) (pa_cons (pv 4) (pa_cons (pe_ix (r := rIxL K) ix_list (pv 2) (pe_op op_add (pv 3) pe_int) (fun _ _ => rfl)) pa_nil))) (pa_cons (pe_tup (pa_cons pe_int (pa_cons pe_int pa_nil))) pa_nil))))
      (pss_one (ps_for (passes_of rfl) rfl (pi_tup (pe_tup (pa_cons (pv 4) (pa_cons (pv 5) pa_nil)))) (pg_name (i := 6) sc_parted.nd rfl (by first | exact Or.inl rfl | exact Or.inr rfl)) (pss_one (ps_if (pt_cmpR (r := rNeD K) (op_neD hu64) (pe_callS G_mapped hr7 rfl g_mapped k_mapped b_mapped (fun σ => passAt (takes_of rfl rfl rfl rfl) σ) (pa_cons (pv 0) (pa_cons (pv 6) pa_nil))) (pe_callS G_mapped hr7 rfl g_mapped k_mapped b_mapped (fun σ => passAt (takes_of rfl rfl rfl rfl) σ) (pa_cons (pv 1) (pa_cons (pv 6) pa_nil))) (nomark _)) (pss_one (ps_ret (pv 6))) pss_nil))))))
      (pss_one (ps_ret pe_non)))))), ?_⟩
    unfold m_parted at P
    have st := Stp.refl (W := []) w
    refine h_seq ?_
    refine h_drop ?_
    refine h_callS ?_
    refine h_cons ?_
    refine h_var rfl ?_
    refine h_nil ?_
    refine ⟨B0, v_one, a_one, w, rfl, ((r_one.step st).w sub0), Post.mono2 P.bind (fun e7 P => ?_) (fun x1 P => ?_)⟩
    · skip
      exact fun C B' H' g s => P C B' H' g (st.go s go0)
    refine fun v5 B2 H3 s4 r6 => ?_
    replace st := st.go s4 go0
    replace w := s4.ok
    cases r6
    refine h_nx ?_
    refine h_seq ?_
    refine h_drop ?_
    refine h_callS ?_
    refine h_cons ?_
    refine h_var rfl ?_
    refine h_nil ?_
    refine ⟨B2, v_other, a_other, w, rfl, ((r_other.step st).w sub0), Post.mono2 P.bind (fun e14 P => ?_) (fun x8 P => ?_)⟩
    · skip
      exact fun C B' H' g s => P C B' H' g (st.go s go0)
    refine fun v12 B9 H10 s11 r13 => ?_
    replace st := st.go s11 go0
    replace w := s11.ok
    cases r13
    refine h_nx ?_
    refine h_set ?_
    refine h_call ?_
    refine h_cons ?_
    refine h_callS ?_
    refine h_cons ?_
    refine h_var rfl ?_
    refine h_nil ?_
    refine ⟨B9, v_one, a_one, w, rfl, ((r_one.step st).w sub0), Post.mono2 P.bind (fun e21 P => ?_) (fun x15 P => ?_)⟩
    · skip
      exact fun C B' H' g s => P C B' H' g (st.go s go0)
    refine fun v19 B16 H17 s18 r20 => ?_
    replace st := st.go s18 go0
    replace w := s18.ok
    refine h_cons ?_
    refine h_callS ?_
    refine h_cons ?_
    refine h_var rfl ?_
    refine h_nil ?_
    refine ⟨B16, v_other, a_other, w, rfl, ((r_other.step st).w sub0), Post.mono2 P.bind (fun e28 P => ?_) (fun x22 P => ?_)⟩
    · skip
      exact fun C B' H' g s => P C B' H' g (st.go s go0)
    refine fun v26 B23 H24 s25 r27 => ?_
    replace r20 := r20.mono s25.ex
    replace st := st.go s25 go0
    replace w := s25.ok
    refine h_nil ?_
    refine ⟨B23, v19, x15, v26, x22, w, rfl, r20, r27, (P.bind.noErr).mono (fun x29 P => ?_) (fun _ z => z.elim)⟩
    refine fun v33 B30 H31 s32 r34 => ?_
    replace r20 := r20.mono s32.ex
    replace r27 := r27.mono s32.ex
    replace st := st.go s32 go0
    replace w := s32.ok
    refine h_seq ?_
    refine h_enumE ?_
    refine h_cons ?_
    refine h_sl ?_
    refine h_var rfl ?_
    refine h_nopart ?_
    refine h_part ?_
    refine h_un ?_
    refine h_c ?_
    refine h_U ?_
    refine h_isI ?_
    obtain ⟨p35, xs36, rfl, hs37, hr38⟩ := Rep.sq w r34
    refine h_slQ hs37 ?_
    refine h_nwL w (ds := ((cutL x29 none (some (-1)))).map enc) (K := K) (hr38.cut none (some (-1))) (fun p39 B40 H41 s42 r43 => ?_) 
    replace r34 := r34.mono s42.ex
    replace st := st.go s42 go0
    replace w := s42.ok
    replace r43 : Rep K B40 (.ref p39) (enc (cutL x29 none (some (-1)))) := r43
    refine h_nil ?_
    obtain ⟨p44, xs45, hv, hb46, hr47⟩ := Rep.sqB r43
    cases hv
    have wj49 := w
    have sj48 := Stp.refl (W := []) w
    refine h_forEn P (w.l hb46) hr47 (fun (a : Unit) σ' H' => ∃ (B' : Hp) (o_middle : Option V) (o_t : Option V) (o_k : Option V) (o_border : Option V), Stp [] B40 H41 B' H' ∧ σ' = [some (v_one), some (v_other), some ((.ref p35)), o_k, o_border, o_middle, o_t]) ⟨_, _, _, _, _, sj48, rfl⟩ (fun _ _ _ j => ?_) ?_ ?_
    · obtain ⟨B59, o62, o63, o64, o65, s61, rfl⟩ := j
      exact s61.ok.l (s61.ex.l hb46)
    · rintro N50 T51 x56 v57 a55 _ H60 ⟨B59, o62, o63, o64, o65, s61, rfl⟩ r58 kk52 kr53 kb54 P
      replace r34 := r34.mono s61.ex
      replace st := st.go s61 go0
      replace w := s61.ok
      have sj48 := s61
      replace r58 := r58.mono sj48.ex
      refine h_newT w (K := K) (.cons (Rep.int _) (.cons r58 .nil)) (fun p66 B67 H68 s69 r70 => ?_) (by show 2 ≤ sizeLine; decide)
      replace r34 := r34.mono s69.ex
      replace st := st.go s69 go0
      replace sj48 := sj48.go s69 go0
      replace w := s69.ok
      replace r70 : Rep K B67 (.ref p66) (enc x56) := r70
      obtain ⟨p71, xs72, hv, hs73, hr74⟩ := Rep.st w r70
      cases hv
      obtain ⟨u75, u77, rfl, r76, r78⟩ := RepL.open2 hr74
      refine h_tupG hs73 rfl ?_
      refine h_gcons ?_
      refine h_gname ?_
      cases r76
      refine h_gcons ?_
      refine h_gname ?_
      refine h_gnil ?_
      refine h_set ?_
      refine h_callS ?_
      refine h_cons ?_
      refine h_callS ?_
      refine h_cons ?_
      refine h_var rfl ?_
      refine h_cons ?_
      refine h_op ?_
      refine h_var rfl ?_
      refine h_op ?_
      refine h_var rfl ?_
      refine h_c ?_
      refine h_I0 ?_
      obtain ⟨p79, xs80, hv, hs81, hr82⟩ := Rep.sq w r34
      cases hv
      obtain ⟨x83, hx84, P⟩ := P.ix
      obtain ⟨u85, hu, r86⟩ := RepL.atE hr82 hx84
      refine h_ixL hs81 hu ?_
      refine h_nil ?_
      refine ⟨B67, u77, x56.b, u85, x83, w, rfl, r78, r86, Post.mono2 P.bind (fun e93 P => ?_) (fun x87 P => ?_)⟩
      · skip
        exact fun C B' H' g s => P C B' H' g (st.go s go0)
      refine fun v91 B88 H89 s90 r92 => ?_
      replace r34 := r34.mono s90.ex
      replace r78 := r78.mono s90.ex
      replace r86 := r86.mono s90.ex
      replace st := st.go s90 go0
      replace sj48 := sj48.go s90 go0
      replace w := s90.ok
      refine h_cons ?_
      refine h_tup ?_
      refine h_cons ?_
      refine h_c ?_
      refine h_cons ?_
      refine h_c ?_
      refine h_nil ?_
      refine h_newT w (K := K) (.cons (Rep.int _) (.cons (Rep.int _) .nil)) (fun p94 B95 H96 s97 r98 => ?_) (by show 2 ≤ sizeLine; decide)
      replace r34 := r34.mono s97.ex
      replace r78 := r78.mono s97.ex
      replace r92 := r92.mono s97.ex
      replace st := st.go s97 go0
      replace sj48 := sj48.go s97 go0
      replace w := s97.ok
      replace r98 : Rep K B95 (.ref p94) (enc (⟨2, 1⟩ : (Tp2 Int Int))) := r98
      refine h_nil ?_
      refine ⟨B95, v91, x87, (.ref p94), (⟨2, 1⟩ : (Tp2 Int Int)), w, rfl, r92, r98, Post.mono2 P.bind (fun e105 P => ?_) (fun x99 P => ?_)⟩
      · skip
        exact fun C B' H' g s => P C B' H' g (st.go s go0)
      refine fun v103 B100 H101 s102 r104 => ?_
      replace r34 := r34.mono s102.ex
      replace r78 := r78.mono s102.ex
      replace r92 := r92.mono s102.ex
      replace r98 := r98.mono s102.ex
      replace st := st.go s102 go0
      replace sj48 := sj48.go s102 go0
      replace w := s102.ok
      refine h_forTE ?_
      refine h_tup ?_
      refine h_cons ?_
      refine h_var rfl ?_
      refine h_cons ?_
      refine h_var rfl ?_
      refine h_nil ?_
      refine h_newT w (K := K) (.cons r78 (.cons r104 .nil)) (fun p106 B107 H108 s109 r110 => ?_) (by show 2 ≤ sizeLine; decide)
      replace r34 := r34.mono s109.ex
      replace r78 := r78.mono s109.ex
      replace r104 := r104.mono s109.ex
      replace st := st.go s109 go0
      replace sj48 := sj48.go s109 go0
      replace w := s109.ok
      replace r110 : Rep K B107 (.ref p106) (enc (⟨x56.b, x99⟩ : (Tp2 (Tp2 Int Int) (Tp2 Int Int)))) := r110
      have rc111 := r110
      obtain ⟨p112, xs113, hv, hb114, hr115⟩ := Rep.stB rc111
      cases hv
      have wj117 := w
      have sj116 := Stp.refl (W := []) w
      refine h_forT P (w.t hb114) hr115 (fun (a : Unit) σ' H' => ∃ (B' : Hp) (o_t : Option V), Stp [] B107 H108 B' H' ∧ σ' = [some (v_one), some (v_other), some ((.ref p35)), some (.int x56.a), some (u77), some (v103), o_t]) ⟨_, _, sj116, rfl⟩ (fun _ _ _ j => ?_) ?_ ?_
      · obtain ⟨B127, o130, s129, rfl⟩ := j
        exact s129.ok.t (s129.ex.t hb114)
      · rintro N118 T119 x124 v125 a123 _ H128 ⟨B127, o130, s129, rfl⟩ r126 kk120 kr121 kb122 P
        replace r34 := r34.mono s129.ex
        replace r78 := r78.mono s129.ex
        replace r104 := r104.mono s129.ex
        replace st := st.go s129 go0
        replace sj48 := sj48.go s129 go0
        replace w := s129.ok
        have sj116 := s129
        replace r126 := r126.mono sj116.ex
        refine h_gname ?_
        refine h_if ?_
        refine h_test ?_
        refine h_op ?_
        refine h_callS ?_
        refine h_cons ?_
        refine h_var rfl ?_
        refine h_cons ?_
        refine h_var rfl ?_
        refine h_nil ?_
        refine ⟨B127, v_one, a_one, v125, x124, w, rfl, ((r_one.step st).w sub0), r126, Post.mono2 P.bind (fun e137 P => ?_) (fun x131 P => ?_)⟩
        · skip
          exact fun C B' H' g s => P C B' H' g (st.go s go0)
        refine fun v135 B132 H133 s134 r136 => ?_
        replace r34 := r34.mono s134.ex
        replace r78 := r78.mono s134.ex
        replace r104 := r104.mono s134.ex
        replace r126 := r126.mono s134.ex
        replace st := st.go s134 go0
        replace sj48 := sj48.go s134 go0
        replace sj116 := sj116.go s134 go0
        replace w := s134.ok
        refine h_callS ?_
        refine h_cons ?_
        refine h_var rfl ?_
        refine h_cons ?_
        refine h_var rfl ?_
        refine h_nil ?_
        refine ⟨B132, v_other, a_other, v125, x124, w, rfl, ((r_other.step st).w sub0), r126, Post.mono2 P.bind (fun e144 P => ?_) (fun x138 P => ?_)⟩
        · skip
          exact fun C B' H' g s => P C B' H' g (st.go s go0)
        refine fun v142 B139 H140 s141 r143 => ?_
        replace r34 := r34.mono s141.ex
        replace r78 := r78.mono s141.ex
        replace r104 := r104.mono s141.ex
        replace r126 := r126.mono s141.ex
        replace r136 := r136.mono s141.ex
        replace st := st.go s141 go0
        replace sj48 := sj48.go s141 go0
        replace sj116 := sj116.go s141 go0
        replace w := s141.ok
        obtain ⟨gd, P⟩ := P.guard
        refine h_neD (d := (enc x131)) (e := (enc x138)) w r136 r143 gd ?_
        refine h_bl ?_
        refine h_ite (fun c1 => ?_) (fun c1 => ?_)
        · replace P := P.iteT c1
          refine h_ret ?_
          refine h_var rfl ?_
          exact (kr53 _ (kr121 _ P.ok)) _ _ _ st r126
        · replace P := P.iteF c1
          refine h_next ?_
          refine h_nx ?_
          exact kk120 () _ _ ⟨_, _, sj116, rfl⟩ P.ok
      · rintro a145 _ H147 ⟨B146, o149, s148, rfl⟩ P
        replace r34 := r34.mono s148.ex
        replace r78 := r78.mono s148.ex
        replace r104 := r104.mono s148.ex
        replace st := st.go s148 go0
        replace sj48 := sj48.go s148 go0
        replace w := s148.ok
        refine h_nx ?_
        exact kk52 () _ _ ⟨_, _, _, _, _, sj48, rfl⟩ P.ok
    · rintro a150 _ H152 ⟨B151, o154, o155, o156, o157, s153, rfl⟩ P
      replace r34 := r34.mono s153.ex
      replace st := st.go s153 go0
      replace w := s153.ok
      refine h_nx ?_
      refine h_ret ?_
      refine h_c ?_
      exact P.ok _ _ _ st Rep.non
theorem ok__law_cell_at {f : Addr} {fd : FuncData}  (F : Fun K "_law_cell_at" "_law_cell_at" s__law_cell_at f fd) (bI_len : mg "len" = none) : FnOk Pr wo K mg base CX0 1 f fd ["_law_script", "_law_k"] (sp__law_cell_at K) := by
  refine F.ok sc__law_cell_at (fun vs H Q E h => ?_) (fun cdv A outer s H0 vs Q E hr h => ?_)
  · obtain ⟨_, _, _, _, _, rfl, _⟩ := h; rfl
  · obtain ⟨B0, v_script, a_script, a_k, w, rfl, r_script, P⟩ := h
    have w0 := w
    have hu := hu_of hr
    have hu64 := hu64_of hr
    refine ⟨_, (pss_cons (ps_if (pt_cmpR op_lt (pv 1) (pe_callB (r := rLenY K) cr_len (by rfl) bI_len PySem.boot_len (pa_cons (pv 0) pa_nil)) (nomark _)) (pss_one (ps_ret (pe_ix (r := rIxL K) ix_list (pv 0) (pv 1) (fun _ _ => rfl)))) pss_nil)
      (pss_one (ps_ret pe_int))), ?_⟩
    unfold l_cell_at at P
    have st := Stp.refl (W := []) w
    refine h_seq <| h_if ?_
    refine h_test ?_
    refine h_op ?_
    refine h_var rfl ?_
    refine h_cb ?_
    refine h_cons ?_
    refine h_var rfl ?_
    refine h_nil ?_
    obtain ⟨p1, xs2, rfl, hs3, hr4⟩ := Bor.sq (r_script.step st)
    refine h_len hs3 hr4 ?_
    refine h_I0 ?_
    refine h_bl ?_
    refine h_ite (fun c1 => ?_) (fun c1 => ?_)
    · replace P := P.iteT c1
      refine h_ret ?_
      refine h_op ?_
      refine h_var rfl ?_
      refine h_var rfl ?_
      obtain ⟨p5, xs6, hv, hs7, hr8⟩ := Bor.sq (r_script.step st)
      cases hv
      obtain ⟨x9, hx10, P⟩ := P.ix
      obtain ⟨u11, hu, r12⟩ := RepL.atE hr8 hx10
      refine h_ixL hs7 hu ?_
      cases r12
      exact P.ok _ _ _ st (Rep.int _)
    · replace P := P.iteF c1
      refine h_next ?_
      refine h_nx ?_
      refine h_ret ?_
      refine h_c ?_
      exact P.ok _ _ _ st (Rep.int _)
theorem ok__law_digit {f : Addr} {fd : FuncData}  (F : Fun K "_law_digit" "_law_digit" s__law_digit f fd) (bI_len : mg "len" = none) : FnOk Pr wo K mg base CX0 1 f fd ["_law_state", "_law_base"] (sp__law_digit K) := by
  refine F.ok sc__law_digit (fun vs H Q E h => ?_) (fun cdv A outer s H0 vs Q E hr h => ?_)
  · obtain ⟨_, _, _, _, _, rfl, _⟩ := h; rfl
  · obtain ⟨B0, p_state, a_state, a_base, w, rfl, m_state, P⟩ := h
    have w0 := w
    have hu := hu_of hr
    have hu64 := hu64_of hr
    refine ⟨_, (pss_cons (ps_if (pt_cmpR op_eq (pe_callB (r := rLenY K) cr_len (by rfl) bI_len PySem.boot_len (pa_cons (pv 0) pa_nil)) pe_int (nomark _)) (pss_one (ps_expr (pe_bm PySem.F.plainAttrs_list PySem.F.slot_list_extend PySem.F.type_list_extend mt_extend (pv 0) (pa_cons (pe_lst (pa_cons (pe_op op_mod (pe_ix (r := rIxL K) ix_list (pv 0) pe_int (fun _ _ => rfl)) pe_int) (pa_cons pe_int pa_nil))) pa_nil)))) pss_nil)
      (pss_cons (ps_if (pt_cmpR op_ge (pe_ix (r := rIxL K) ix_list (pv 0) pe_int (fun _ _ => rfl)) (pv 1) (nomark _)) (pss_cons (ps_set (i := 2) sc__law_digit.nd rfl (by first | exact Or.inl rfl | exact Or.inr rfl) (pe_op op_mod (pe_ix (r := rIxL K) ix_list (pv 0) pe_int (fun _ _ => rfl)) (pv 1)))
      (pss_cons (ps_asg (pe_op op_fdivW (pe_ix (r := rIxL K) ix_list (pv 0) pe_int (fun _ _ => rfl)) (pv 1)) (pg_sub (pv 0) pe_int set_list))
      (pss_one (ps_ret (pv 2))))) pss_nil)
      (pss_cons (ps_asg (pe_op op_add (pe_ix (r := rIxL K) ix_list (pv 0) pe_int (fun _ _ => rfl)) pe_int) (pg_sub (pv 0) pe_int set_list))
      (pss_cons (ps_set (i := 3) sc__law_digit.nd rfl (by first | exact Or.inl rfl | exact Or.inr rfl) (pe_op op_mod (pe_op op_mul (pe_op op_add (pe_op op_add (pe_ix (r := rIxL K) ix_list (pv 0) pe_int (fun _ _ => rfl)) (pe_op op_mul pe_int (pe_ix (r := rIxL K) ix_list (pv 0) pe_int (fun _ _ => rfl)))) pe_int) pe_int) pe_int))
      (pss_cons (ps_set (i := 3) sc__law_digit.nd rfl (by first | exact Or.inl rfl | exact Or.inr rfl) (pe_op op_mod (pe_op op_mulW (pv 3) (pe_op op_add (pe_op op_fdiv (pv 3) pe_int) pe_int)) pe_int))
      (pss_one (ps_ret (pe_op op_mod (pe_op op_mod (pe_op op_mulW (pv 3) (pe_op op_add (pe_op op_fdiv (pv 3) pe_int) pe_int)) pe_int) (pv 1))))))))), ?_⟩
    unfold l_digit at P
    have st := Stp.refl (W := [p_state]) w
    have wj2 := w
    have sj1 := Stp.refl (W := [p_state]) w
    refine h_joinS P (fun (a : (List Int)) σ' H' => ∃ (B' : Hp), Stp [p_state] B0 H0 B' H' ∧ σ' = [some ((.ref p_state)), some (.int a_base), none, none] ∧ Mu K B' H' p_state (a.map enc)) (fun N kk3 P => h_if ?_) ?_
    · skip
      refine h_test ?_
      refine h_op ?_
      refine h_cb ?_
      refine h_cons ?_
      refine h_var rfl ?_
      refine h_nil ?_
      obtain ⟨xs5, hv, hs6, hr7⟩ := Mu.sq m_state
      refine h_len hs6 hr7 ?_
      refine h_c ?_
      refine h_eqI ?_
      refine h_bl ?_
      refine h_ite (fun c1 => ?_) (fun c1 => ?_)
      · replace P := P.iteT c1
        refine h_drop ?_
        refine h_bm ?_
        refine h_var rfl ?_
        refine h_bmL m_state ?_
        refine h_cons ?_
        refine h_lst ?_
        refine h_cons ?_
        refine h_op ?_
        refine h_op ?_
        refine h_var rfl ?_
        refine h_c ?_
        obtain ⟨xs9, hv, hs10, hr11⟩ := Mu.sq m_state
        obtain ⟨x12, hx13, P⟩ := P.ix
        obtain ⟨u14, hu, r15⟩ := RepL.atE hr11 hx13
        refine h_ixL hs10 hu ?_
        cases r15
        refine h_c ?_
        refine h_I (by decide +kernel) ?_
        refine h_cons ?_
        refine h_c ?_
        refine h_nil ?_
        refine h_newM w (ds := (([(x12 % 2147483647), 0] : List Int)).map enc) (K := K) (.cons (Rep.int _) (.cons (Rep.int _) .nil)) (fun p16 H17 hn20 s18 m19 => ?_) (by show 2 ≤ sizeLine; decide)
        have n21 := st.nn hn20
        have n22 := sj1.nn hn20
        have ne23 := Mu.ne m_state hn20
        replace m_state := m_state.step s18 nm0
        replace st := st.go s18 go0
        replace sj1 := sj1.go s18 go0
        replace w := s18.ok
        refine h_nil ?_
        obtain ⟨gd, P⟩ := P.guard
        refine h_extend w m_state m19 gd (fun H24 s25 m_state => ?_)
        replace st := st.go s25 (go1 (.inl (by simp)))
        replace sj1 := sj1.go s25 (go1 (.inl (by simp)))
        replace w := s25.ok
        refine h_nx ?_
        exact kk3 (a_state ++ ([(x12 % 2147483647), 0] : List Int)) _ _ ⟨_, sj1, rfl, m_state⟩ P.ok
      · replace P := P.iteF c1
        refine h_next ?_
        refine h_nx ?_
        exact kk3 a_state _ _ ⟨_, sj1, rfl, m_state⟩ P.ok
    rintro a26 _ H28 ⟨B27, s29, rfl, m_state⟩ P
    replace st := st.go s29 (go1 (.inl (by simp)))
    replace w := s29.ok
    refine h_seq <| h_if ?_
    refine h_test ?_
    refine h_op ?_
    refine h_op ?_
    refine h_var rfl ?_
    refine h_c ?_
    obtain ⟨xs31, hv, hs32, hr33⟩ := Mu.sq m_state
    obtain ⟨x34, hx35, P⟩ := P.ix
    obtain ⟨u36, hu, r37⟩ := RepL.atE hr33 hx35
    refine h_ixL hs32 hu ?_
    cases r37
    refine h_var rfl ?_
    refine h_I0 ?_
    refine h_bl ?_
    refine h_ite (fun c1 => ?_) (fun c1 => ?_)
    · replace P := P.iteT c1
      refine h_set ?_
      refine h_op ?_
      refine h_op ?_
      refine h_var rfl ?_
      refine h_c ?_
      obtain ⟨xs39, hv, hs40, hr41⟩ := Mu.sq m_state
      obtain ⟨x42, hx43, P⟩ := P.ix
      obtain ⟨u44, hu, r45⟩ := RepL.atE hr41 hx43
      refine h_ixL hs40 hu ?_
      cases r45
      refine h_var rfl ?_
      obtain ⟨gd, P⟩ := P.guard
      refine h_I gd ?_
      replace P := P.lt
      generalize hx : (x42 % a_base) = x46 at P ⊢
      refine h_seq ?_
      refine h_asg ?_
      refine h_op ?_
      refine h_op ?_
      refine h_var rfl ?_
      refine h_c ?_
      obtain ⟨xs48, hv, hs49, hr50⟩ := Mu.sq m_state
      obtain ⟨x51, hx52, P⟩ := P.ix
      obtain ⟨u53, hu, r54⟩ := RepL.atE hr50 hx52
      refine h_ixL hs49 hu ?_
      cases r54
      refine h_var rfl ?_
      obtain ⟨gd, P⟩ := P.guard
      refine h_I gd ?_
      refine h_sub ?_
      refine h_var rfl ?_
      refine h_c ?_
      obtain ⟨j56, hj57, P⟩ := P.set
      refine h_setL (b := (x51 / a_base)) w m_state (Rep.int _) hj57 (fun H58 s59 m_state => ?_)
      replace st := st.go s59 (go1 (.inl (by simp)))
      replace w := s59.ok
      generalize hl : List.set a26 j56 (x51 / a_base) = x55 at *
      refine h_nx ?_
      refine h_ret ?_
      refine h_var rfl ?_
      exact P.ok _ _ _ st m_state (Rep.int _)
    · replace P := P.iteF c1
      refine h_next ?_
      refine h_nx ?_
      refine h_seq ?_
      refine h_asg ?_
      refine h_op ?_
      refine h_op ?_
      refine h_var rfl ?_
      refine h_c ?_
      obtain ⟨xs61, hv, hs62, hr63⟩ := Mu.sq m_state
      obtain ⟨x64, hx65, P⟩ := P.ix
      obtain ⟨u66, hu, r67⟩ := RepL.atE hr63 hx65
      refine h_ixL hs62 hu ?_
      cases r67
      refine h_c ?_
      refine h_I0 ?_
      refine h_sub ?_
      refine h_var rfl ?_
      refine h_c ?_
      obtain ⟨j69, hj70, P⟩ := P.set
      refine h_setL (b := (x64 + 1)) w m_state (Rep.int _) hj70 (fun H71 s72 m_state => ?_)
      replace st := st.go s72 (go1 (.inl (by simp)))
      replace w := s72.ok
      generalize hl : List.set a26 j69 (x64 + 1) = x68 at *
      refine h_nx ?_
      refine h_set ?_
      refine h_op ?_
      refine h_op ?_
      refine h_op ?_
      refine h_op ?_
      refine h_op ?_
      refine h_var rfl ?_
      refine h_c ?_
      obtain ⟨xs74, hv, hs75, hr76⟩ := Mu.sq m_state
      obtain ⟨x77, hx78, P⟩ := P.ix
      obtain ⟨u79, hu, r80⟩ := RepL.atE hr76 hx78
      refine h_ixL hs75 hu ?_
      cases r80
      refine h_op ?_
      refine h_c ?_
      refine h_op ?_
      refine h_var rfl ?_
      refine h_c ?_
      obtain ⟨xs82, hv, hs83, hr84⟩ := Mu.sq m_state
      obtain ⟨x85, hx86, P⟩ := P.ix
      obtain ⟨u87, hu, r88⟩ := RepL.atE hr84 hx86
      refine h_ixL hs83 hu ?_
      cases r88
      refine h_I (.inl ⟨by decide +kernel, by decide +kernel⟩) ?_
      refine h_I0 ?_
      refine h_c ?_
      refine h_I0 ?_
      refine h_c ?_
      refine h_I (.inr ⟨by decide +kernel, by decide +kernel⟩) ?_
      refine h_c ?_
      refine h_I (by decide +kernel) ?_
      replace P := P.lt
      generalize hx : ((((x77 + (7919 * x85)) + 1) * 48271) % 2147483647) = x89 at P ⊢
      refine h_set ?_
      refine h_op ?_
      refine h_op ?_
      refine h_var rfl ?_
      refine h_op ?_
      refine h_op ?_
      refine h_var rfl ?_
      refine h_c ?_
      refine h_I ⟨by decide +kernel, by decide +kernel⟩ ?_
      refine h_c ?_
      refine h_I0 ?_
      obtain ⟨gd, P⟩ := P.guard
      refine h_I gd ?_
      refine h_c ?_
      refine h_I (by decide +kernel) ?_
      replace P := P.lt
      generalize hx : ((x89 * ((x89 / 1009) + 69621)) % 2147483647) = x90 at P ⊢
      refine h_ret ?_
      refine h_op ?_
      refine h_op ?_
      refine h_op ?_
      refine h_var rfl ?_
      refine h_op ?_
      refine h_op ?_
      refine h_var rfl ?_
      refine h_c ?_
      refine h_I ⟨by decide +kernel, by decide +kernel⟩ ?_
      refine h_c ?_
      refine h_I0 ?_
      obtain ⟨gd, P⟩ := P.guard
      refine h_I gd ?_
      refine h_c ?_
      refine h_I (by decide +kernel) ?_
      refine h_var rfl ?_
      obtain ⟨gd, P⟩ := P.guard
      refine h_I gd ?_
      exact P.ok _ _ _ st m_state (Rep.int _)
theorem ok__law_shared {f : Addr} {fd : FuncData}  (F : Fun K "_law_shared" "_law_shared" s__law_shared f fd) (bI_abs : mg "abs" = none) : FnOk Pr wo K mg base CX0 1 f fd ["_law_left", "_law_right_here"] (sp__law_shared K) := by
  refine F.ok sc__law_shared (fun vs H Q E h => ?_) (fun cdv A outer s H0 vs Q E hr h => ?_)
  · obtain ⟨_, _, _, _, rfl, _⟩ := h; rfl
  · obtain ⟨B0, a_left, a_right_here, w, rfl, P⟩ := h
    have w0 := w
    have hu := hu_of hr
    have hu64 := hu64_of hr
    refine ⟨_, (pss_cons (ps_set (i := 0) sc__law_shared.nd rfl (by first | exact Or.inl rfl | exact Or.inr rfl) (pe_callB cr_abs (by rfl) bI_abs PyProof.Rows.boot_abs (pa_cons (pv 0) pa_nil)))
      (pss_cons (ps_set (i := 1) sc__law_shared.nd rfl (by first | exact Or.inl rfl | exact Or.inr rfl) (pe_callB cr_abs (by rfl) bI_abs PyProof.Rows.boot_abs (pa_cons (pv 1) pa_nil)))
      (pss_cons (ps_while PassesOwn.never (pt_cmpR op_gt (pv 1) pe_int (nomark _)) (pss_one (ps_par rfl sc__law_shared.nd (i := 0) (j := 1) rfl rfl (by decide) rfl rfl (pa_cons (pv 1) (pa_cons (pe_op op_mod (pv 0) (pv 1)) pa_nil)) rfl)))
      (pss_one (ps_ret (pv 0)))))), ?_⟩
    unfold l_shared at P
    have st := Stp.refl (W := []) w
    refine h_set ?_
    refine h_cb ?_
    refine h_cons ?_
    refine h_var rfl ?_
    refine h_nil ?_
    refine h_abs ?_
    replace P := P.lt
    generalize hx : (absI a_left) = x1 at P ⊢
    refine h_set ?_
    refine h_cb ?_
    refine h_cons ?_
    refine h_var rfl ?_
    refine h_nil ?_
    refine h_abs ?_
    replace P := P.lt
    generalize hx : (absI a_right_here) = x2 at P ⊢
    refine h_seq ?_
    have wj4 := w
    have sj3 := Stp.refl (W := []) w
    refine h_while P (fun (a : Int × Int) σ' H' => ∃ (B' : Hp), Stp [] B0 H0 B' H' ∧ σ' = [some (.int a.1), some (.int a.2)]) ⟨_, sj3, rfl⟩ ?_ ?_
    · rintro N5 C6 T7 a12 _ H14 ⟨B13, s15, rfl⟩ kn8 kk9 kr10 kb11 P
      replace st := st.go s15 go0
      replace w := s15.ok
      have sj3 := s15
      refine h_test ?_
      refine h_op ?_
      refine h_var rfl ?_
      refine h_c ?_
      refine h_I0 ?_
      refine h_bl ?_
      refine h_ite (fun c1 => ?_) (fun c1 => ?_)
      · replace P := P.iteT c1
        refine ⟨N5, kn8, ?_⟩
        refine h_par ?_
        refine h_cons ?_
        refine h_var rfl ?_
        refine h_cons ?_
        refine h_op ?_
        refine h_var rfl ?_
        refine h_var rfl ?_
        obtain ⟨gd, P⟩ := P.guard
        refine h_I gd ?_
        refine h_nil ?_
        refine h_two ?_
        replace P := P.lt
        generalize hx : (a12.1 % a12.2) = x16 at P ⊢
        refine h_nx ?_
        exact kk9 (a12.2, x16) _ _ ⟨_, sj3, rfl⟩ P.ok
      · replace P := P.iteF c1
        exact kb11 (a12.1, a12.2) _ _ ⟨_, sj3, rfl⟩ P.ok
    · rintro a17 _ H19 ⟨B18, s20, rfl⟩ P
      replace st := st.go s20 go0
      replace w := s20.ok
      refine h_nx ?_
      refine h_ret ?_
      refine h_var rfl ?_
      exact P.ok _ _ _ st (Rep.int _)
theorem ok__law_lowest {f : Addr} {fd : FuncData}  (F : Fun K "_law_lowest" "_law_lowest" s__law_lowest f fd) {f__law_shared : Addr} {d__law_shared : FuncData} (g__law_shared : mg "_law_shared" = some (.ref f__law_shared)) (k__law_shared : PySem.W.keepIn K (.ref f__law_shared) = true) (b__law_shared : L2.Binds K d__law_shared ["_law_left", "_law_right_here"] []) (G__law_shared : FnOk Pr wo K mg base CX0 1 f__law_shared d__law_shared ["_law_left", "_law_right_here"] (sp__law_shared K)) : FnOk Pr wo K mg base CX0 2 f fd ["_law_top", "_law_bottom"] (sp__law_lowest K) := by
  refine F.ok sc__law_lowest (fun vs H Q E h => ?_) (fun cdv A outer s H0 vs Q E hr h => ?_)
  · obtain ⟨_, _, _, _, rfl, _⟩ := h; rfl
  · obtain ⟨B0, a_top, a_bottom, w, rfl, P⟩ := h
    have w0 := w
    have hu := hu_of hr
    have hu64 := hu64_of hr
    have hr1 : Room 1 _ := hr.mono (by decide)
    refine ⟨_, (pss_cons (ps_set (i := 2) sc__law_lowest.nd rfl (by first | exact Or.inl rfl | exact Or.inr rfl) (pe_call G__law_shared hr1 rfl g__law_shared k__law_shared b__law_shared .nil pass0 (pa_cons (pv 0) (pa_cons (pv 1) pa_nil))))
      (pss_one (ps_ret (pe_tup (pa_cons (pe_op op_fdivW (pv 0) (pv 2)) (pa_cons (pe_op op_fdivW (pv 1) (pv 2)) pa_nil)))))), ?_⟩
    unfold l_lowest at P
    have st := Stp.refl (W := []) w
    refine h_set ?_
    refine h_call ?_
    refine h_cons ?_
    refine h_var rfl ?_
    refine h_cons ?_
    refine h_var rfl ?_
    refine h_nil ?_
    refine ⟨B0, a_top, a_bottom, w, rfl, (P.bind).mono (fun x1 P => ?_) (fun _ z => z)⟩
    refine fun v5 B2 H3 s4 r6 => ?_
    replace st := st.go s4 go0
    replace w := s4.ok
    cases r6
    refine h_ret ?_
    refine h_tup ?_
    refine h_cons ?_
    refine h_op ?_
    refine h_var rfl ?_
    refine h_var rfl ?_
    obtain ⟨gd, P⟩ := P.guard
    refine h_I gd ?_
    refine h_cons ?_
    refine h_op ?_
    refine h_var rfl ?_
    refine h_var rfl ?_
    obtain ⟨gd, P⟩ := P.guard
    refine h_I gd ?_
    refine h_nil ?_
    refine h_newT w (K := K) (.cons (Rep.int _) (.cons (Rep.int _) .nil)) (fun p7 B8 H9 s10 r11 => ?_) (by show 2 ≤ sizeLine; decide)
    replace st := st.go s10 go0
    replace w := s10.ok
    replace r11 : Rep K B8 (.ref p7) (enc (⟨(a_top / x1), (a_bottom / x1)⟩ : (Tp2 Int Int))) := r11
    exact P.ok _ _ _ st r11
theorem ok__law_plus {f : Addr} {fd : FuncData}  (F : Fun K "_law_plus" "_law_plus" s__law_plus f fd) {f__law_lowest : Addr} {d__law_lowest : FuncData} (g__law_lowest : mg "_law_lowest" = some (.ref f__law_lowest)) (k__law_lowest : PySem.W.keepIn K (.ref f__law_lowest) = true) (b__law_lowest : L2.Binds K d__law_lowest ["_law_top", "_law_bottom"] []) (G__law_lowest : FnOk Pr wo K mg base CX0 2 f__law_lowest d__law_lowest ["_law_top", "_law_bottom"] (sp__law_lowest K)) : FnOk Pr wo K mg base CX0 3 f fd ["_law_left", "_law_right_here"] (sp__law_plus K) := by
  refine F.ok sc__law_plus (fun vs H Q E h => ?_) (fun cdv A outer s H0 vs Q E hr h => ?_)
  · obtain ⟨_, _, _, _, _, _, rfl, _⟩ := h; rfl
  · obtain ⟨B0, v_left, a_left, v_right_here, a_right_here, w, rfl, r_left, r_right_here, P⟩ := h
    have w0 := w
    have hu := hu_of hr
    have hu64 := hu64_of hr
    have hr2 : Room 2 _ := hr.mono (by decide)
    refine ⟨_, (pss_one (ps_ret (pe_call G__law_lowest hr2 rfl g__law_lowest k__law_lowest b__law_lowest .nil pass0 (pa_cons (pe_op op_add (pe_op op_mulW (pe_ix (r := rIxT K) ix_tup (pv 0) pe_int (fun _ _ => rfl)) (pe_ix (r := rIxT K) ix_tup (pv 1) pe_int (fun _ _ => rfl))) (pe_op op_mulW (pe_ix (r := rIxT K) ix_tup (pv 1) pe_int (fun _ _ => rfl)) (pe_ix (r := rIxT K) ix_tup (pv 0) pe_int (fun _ _ => rfl)))) (pa_cons (pe_op op_mulW (pe_ix (r := rIxT K) ix_tup (pv 0) pe_int (fun _ _ => rfl)) (pe_ix (r := rIxT K) ix_tup (pv 1) pe_int (fun _ _ => rfl))) pa_nil))))), ?_⟩
    unfold l_plus at P
    have st := Stp.refl (W := []) w
    refine h_ret ?_
    refine h_call ?_
    refine h_cons ?_
    refine h_op ?_
    refine h_op ?_
    refine h_op ?_
    refine h_var rfl ?_
    refine h_c ?_
    obtain ⟨p1, xs2, rfl, hs3, hr4⟩ := Rep.st w (r_left.mono st.ex)
    obtain ⟨u5, hu, r6⟩ := RepL.at hr4 (i := 0) rfl
    refine h_ixT hs3 hu ?_
    cases r6
    refine h_op ?_
    refine h_var rfl ?_
    refine h_c ?_
    obtain ⟨p7, xs8, rfl, hs9, hr10⟩ := Rep.st w (r_right_here.mono st.ex)
    obtain ⟨u11, hu, r12⟩ := RepL.at hr10 (i := 1) rfl
    refine h_ixT hs9 hu ?_
    cases r12
    obtain ⟨gd, P⟩ := P.guard
    refine h_I gd ?_
    refine h_op ?_
    refine h_op ?_
    refine h_var rfl ?_
    refine h_c ?_
    obtain ⟨p13, xs14, hv, hs15, hr16⟩ := Rep.st w (r_right_here.mono st.ex)
    cases hv
    obtain ⟨u17, hu, r18⟩ := RepL.at hr16 (i := 0) rfl
    refine h_ixT hs15 hu ?_
    cases r18
    refine h_op ?_
    refine h_var rfl ?_
    refine h_c ?_
    obtain ⟨p19, xs20, hv, hs21, hr22⟩ := Rep.st w (r_left.mono st.ex)
    cases hv
    obtain ⟨u23, hu, r24⟩ := RepL.at hr22 (i := 1) rfl
    refine h_ixT hs21 hu ?_
    cases r24
    obtain ⟨gd, P⟩ := P.guard
    refine h_I gd ?_
    refine h_I0 ?_
    refine h_cons ?_
    refine h_op ?_
    refine h_op ?_
    refine h_var rfl ?_
    refine h_c ?_
    obtain ⟨p25, xs26, hv, hs27, hr28⟩ := Rep.st w (r_left.mono st.ex)
    cases hv
    obtain ⟨u29, hu, r30⟩ := RepL.at hr28 (i := 1) rfl
    refine h_ixT hs27 hu ?_
    cases r30
    refine h_op ?_
    refine h_var rfl ?_
    refine h_c ?_
    obtain ⟨p31, xs32, hv, hs33, hr34⟩ := Rep.st w (r_right_here.mono st.ex)
    cases hv
    obtain ⟨u35, hu, r36⟩ := RepL.at hr34 (i := 1) rfl
    refine h_ixT hs33 hu ?_
    cases r36
    obtain ⟨gd, P⟩ := P.guard
    refine h_I gd ?_
    refine h_nil ?_
    refine ⟨B0, ((a_left.a * a_right_here.b) + (a_right_here.a * a_left.b)), (a_left.b * a_right_here.b), w, rfl, (P.bind).mono (fun x37 P => ?_) (fun _ z => z)⟩
    refine fun v41 B38 H39 s40 r42 => ?_
    replace st := st.go s40 go0
    replace w := s40.ok
    exact P.ok _ _ _ st r42
theorem ok__law_minus {f : Addr} {fd : FuncData}  (F : Fun K "_law_minus" "_law_minus" s__law_minus f fd) {f__law_lowest : Addr} {d__law_lowest : FuncData} (g__law_lowest : mg "_law_lowest" = some (.ref f__law_lowest)) (k__law_lowest : PySem.W.keepIn K (.ref f__law_lowest) = true) (b__law_lowest : L2.Binds K d__law_lowest ["_law_top", "_law_bottom"] []) (G__law_lowest : FnOk Pr wo K mg base CX0 2 f__law_lowest d__law_lowest ["_law_top", "_law_bottom"] (sp__law_lowest K)) : FnOk Pr wo K mg base CX0 3 f fd ["_law_left", "_law_right_here"] (sp__law_minus K) := by
  refine F.ok sc__law_minus (fun vs H Q E h => ?_) (fun cdv A outer s H0 vs Q E hr h => ?_)
  · obtain ⟨_, _, _, _, _, _, rfl, _⟩ := h; rfl
  · obtain ⟨B0, v_left, a_left, v_right_here, a_right_here, w, rfl, r_left, r_right_here, P⟩ := h
    have w0 := w
    have hu := hu_of hr
    have hu64 := hu64_of hr
    have hr2 : Room 2 _ := hr.mono (by decide)
    refine ⟨_, (pss_one (ps_ret (pe_call G__law_lowest hr2 rfl g__law_lowest k__law_lowest b__law_lowest .nil pass0 (pa_cons (pe_op op_sub (pe_op op_mulW (pe_ix (r := rIxT K) ix_tup (pv 0) pe_int (fun _ _ => rfl)) (pe_ix (r := rIxT K) ix_tup (pv 1) pe_int (fun _ _ => rfl))) (pe_op op_mulW (pe_ix (r := rIxT K) ix_tup (pv 1) pe_int (fun _ _ => rfl)) (pe_ix (r := rIxT K) ix_tup (pv 0) pe_int (fun _ _ => rfl)))) (pa_cons (pe_op op_mulW (pe_ix (r := rIxT K) ix_tup (pv 0) pe_int (fun _ _ => rfl)) (pe_ix (r := rIxT K) ix_tup (pv 1) pe_int (fun _ _ => rfl))) pa_nil))))), ?_⟩
    unfold l_minus at P
    have st := Stp.refl (W := []) w
    refine h_ret ?_
    refine h_call ?_
    refine h_cons ?_
    refine h_op ?_
    refine h_op ?_
    refine h_op ?_
    refine h_var rfl ?_
    refine h_c ?_
    obtain ⟨p1, xs2, rfl, hs3, hr4⟩ := Rep.st w (r_left.mono st.ex)
    obtain ⟨u5, hu, r6⟩ := RepL.at hr4 (i := 0) rfl
    refine h_ixT hs3 hu ?_
    cases r6
    refine h_op ?_
    refine h_var rfl ?_
    refine h_c ?_
    obtain ⟨p7, xs8, rfl, hs9, hr10⟩ := Rep.st w (r_right_here.mono st.ex)
    obtain ⟨u11, hu, r12⟩ := RepL.at hr10 (i := 1) rfl
    refine h_ixT hs9 hu ?_
    cases r12
    obtain ⟨gd, P⟩ := P.guard
    refine h_I gd ?_
    refine h_op ?_
    refine h_op ?_
    refine h_var rfl ?_
    refine h_c ?_
    obtain ⟨p13, xs14, hv, hs15, hr16⟩ := Rep.st w (r_right_here.mono st.ex)
    cases hv
    obtain ⟨u17, hu, r18⟩ := RepL.at hr16 (i := 0) rfl
    refine h_ixT hs15 hu ?_
    cases r18
    refine h_op ?_
    refine h_var rfl ?_
    refine h_c ?_
    obtain ⟨p19, xs20, hv, hs21, hr22⟩ := Rep.st w (r_left.mono st.ex)
    cases hv
    obtain ⟨u23, hu, r24⟩ := RepL.at hr22 (i := 1) rfl
    refine h_ixT hs21 hu ?_
    cases r24
    obtain ⟨gd, P⟩ := P.guard
    refine h_I gd ?_
    refine h_I0 ?_
    refine h_cons ?_
    refine h_op ?_
    refine h_op ?_
    refine h_var rfl ?_
    refine h_c ?_
    obtain ⟨p25, xs26, hv, hs27, hr28⟩ := Rep.st w (r_left.mono st.ex)
    cases hv
    obtain ⟨u29, hu, r30⟩ := RepL.at hr28 (i := 1) rfl
    refine h_ixT hs27 hu ?_
    cases r30
    refine h_op ?_
    refine h_var rfl ?_
    refine h_c ?_
    obtain ⟨p31, xs32, hv, hs33, hr34⟩ := Rep.st w (r_right_here.mono st.ex)
    cases hv
    obtain ⟨u35, hu, r36⟩ := RepL.at hr34 (i := 1) rfl
    refine h_ixT hs33 hu ?_
    cases r36
    obtain ⟨gd, P⟩ := P.guard
    refine h_I gd ?_
    refine h_nil ?_
    refine ⟨B0, ((a_left.a * a_right_here.b) - (a_right_here.a * a_left.b)), (a_left.b * a_right_here.b), w, rfl, (P.bind).mono (fun x37 P => ?_) (fun _ z => z)⟩
    refine fun v41 B38 H39 s40 r42 => ?_
    replace st := st.go s40 go0
    replace w := s40.ok
    exact P.ok _ _ _ st r42
theorem ok__law_times {f : Addr} {fd : FuncData}  (F : Fun K "_law_times" "_law_times" s__law_times f fd) {f__law_lowest : Addr} {d__law_lowest : FuncData} (g__law_lowest : mg "_law_lowest" = some (.ref f__law_lowest)) (k__law_lowest : PySem.W.keepIn K (.ref f__law_lowest) = true) (b__law_lowest : L2.Binds K d__law_lowest ["_law_top", "_law_bottom"] []) (G__law_lowest : FnOk Pr wo K mg base CX0 2 f__law_lowest d__law_lowest ["_law_top", "_law_bottom"] (sp__law_lowest K)) : FnOk Pr wo K mg base CX0 3 f fd ["_law_left", "_law_right_here"] (sp__law_times K) := by
  refine F.ok sc__law_times (fun vs H Q E h => ?_) (fun cdv A outer s H0 vs Q E hr h => ?_)
  · obtain ⟨_, _, _, _, _, _, rfl, _⟩ := h; rfl
  · obtain ⟨B0, v_left, a_left, v_right_here, a_right_here, w, rfl, r_left, r_right_here, P⟩ := h
    have w0 := w
    have hu := hu_of hr
    have hu64 := hu64_of hr
    have hr2 : Room 2 _ := hr.mono (by decide)
    refine ⟨_, (pss_one (ps_ret (pe_call G__law_lowest hr2 rfl g__law_lowest k__law_lowest b__law_lowest .nil pass0 (pa_cons (pe_op op_mulW (pe_ix (r := rIxT K) ix_tup (pv 0) pe_int (fun _ _ => rfl)) (pe_ix (r := rIxT K) ix_tup (pv 1) pe_int (fun _ _ => rfl))) (pa_cons (pe_op op_mulW (pe_ix (r := rIxT K) ix_tup (pv 0) pe_int (fun _ _ => rfl)) (pe_ix (r := rIxT K) ix_tup (pv 1) pe_int (fun _ _ => rfl))) pa_nil))))), ?_⟩
    unfold l_times at P
    have st := Stp.refl (W := []) w
    refine h_ret ?_
    refine h_call ?_
    refine h_cons ?_
    refine h_op ?_
    refine h_op ?_
    refine h_var rfl ?_
    refine h_c ?_
    obtain ⟨p1, xs2, rfl, hs3, hr4⟩ := Rep.st w (r_left.mono st.ex)
    obtain ⟨u5, hu, r6⟩ := RepL.at hr4 (i := 0) rfl
    refine h_ixT hs3 hu ?_
    cases r6
    refine h_op ?_
    refine h_var rfl ?_
    refine h_c ?_
    obtain ⟨p7, xs8, rfl, hs9, hr10⟩ := Rep.st w (r_right_here.mono st.ex)
    obtain ⟨u11, hu, r12⟩ := RepL.at hr10 (i := 0) rfl
    refine h_ixT hs9 hu ?_
    cases r12
    obtain ⟨gd, P⟩ := P.guard
    refine h_I gd ?_
    refine h_cons ?_
    refine h_op ?_
    refine h_op ?_
    refine h_var rfl ?_
    refine h_c ?_
    obtain ⟨p13, xs14, hv, hs15, hr16⟩ := Rep.st w (r_left.mono st.ex)
    cases hv
    obtain ⟨u17, hu, r18⟩ := RepL.at hr16 (i := 1) rfl
    refine h_ixT hs15 hu ?_
    cases r18
    refine h_op ?_
    refine h_var rfl ?_
    refine h_c ?_
    obtain ⟨p19, xs20, hv, hs21, hr22⟩ := Rep.st w (r_right_here.mono st.ex)
    cases hv
    obtain ⟨u23, hu, r24⟩ := RepL.at hr22 (i := 1) rfl
    refine h_ixT hs21 hu ?_
    cases r24
    obtain ⟨gd, P⟩ := P.guard
    refine h_I gd ?_
    refine h_nil ?_
    refine ⟨B0, (a_left.a * a_right_here.a), (a_left.b * a_right_here.b), w, rfl, (P.bind).mono (fun x25 P => ?_) (fun _ z => z)⟩
    refine fun v29 B26 H27 s28 r30 => ?_
    replace st := st.go s28 go0
    replace w := s28.ok
    exact P.ok _ _ _ st r30
theorem ok__law_less {f : Addr} {fd : FuncData}  (F : Fun K "_law_less" "_law_less" s__law_less f fd)  : FnOk Pr wo K mg base CX0 1 f fd ["_law_left", "_law_right_here"] (sp__law_less K) := by
  refine F.ok sc__law_less (fun vs H Q E h => ?_) (fun cdv A outer s H0 vs Q E hr h => ?_)
  · obtain ⟨_, _, _, _, _, _, rfl, _⟩ := h; rfl
  · obtain ⟨B0, v_left, a_left, v_right_here, a_right_here, w, rfl, r_left, r_right_here, P⟩ := h
    have w0 := w
    have hu := hu_of hr
    have hu64 := hu64_of hr
    refine ⟨_, (pss_one (ps_ret (pe_cmpR op_lt (pe_op op_mulW (pe_ix (r := rIxT K) ix_tup (pv 0) pe_int (fun _ _ => rfl)) (pe_ix (r := rIxT K) ix_tup (pv 1) pe_int (fun _ _ => rfl))) (pe_op op_mulW (pe_ix (r := rIxT K) ix_tup (pv 1) pe_int (fun _ _ => rfl)) (pe_ix (r := rIxT K) ix_tup (pv 0) pe_int (fun _ _ => rfl))) (nomark _)))), ?_⟩
    unfold l_less at P
    have st := Stp.refl (W := []) w
    refine h_ret ?_
    refine h_op ?_
    refine h_op ?_
    refine h_op ?_
    refine h_var rfl ?_
    refine h_c ?_
    obtain ⟨p1, xs2, rfl, hs3, hr4⟩ := Rep.st w (r_left.mono st.ex)
    obtain ⟨u5, hu, r6⟩ := RepL.at hr4 (i := 0) rfl
    refine h_ixT hs3 hu ?_
    cases r6
    refine h_op ?_
    refine h_var rfl ?_
    refine h_c ?_
    obtain ⟨p7, xs8, rfl, hs9, hr10⟩ := Rep.st w (r_right_here.mono st.ex)
    obtain ⟨u11, hu, r12⟩ := RepL.at hr10 (i := 1) rfl
    refine h_ixT hs9 hu ?_
    cases r12
    obtain ⟨gd, P⟩ := P.guard
    refine h_I gd ?_
    refine h_op ?_
    refine h_op ?_
    refine h_var rfl ?_
    refine h_c ?_
    obtain ⟨p13, xs14, hv, hs15, hr16⟩ := Rep.st w (r_right_here.mono st.ex)
    cases hv
    obtain ⟨u17, hu, r18⟩ := RepL.at hr16 (i := 0) rfl
    refine h_ixT hs15 hu ?_
    cases r18
    refine h_op ?_
    refine h_var rfl ?_
    refine h_c ?_
    obtain ⟨p19, xs20, hv, hs21, hr22⟩ := Rep.st w (r_left.mono st.ex)
    cases hv
    obtain ⟨u23, hu, r24⟩ := RepL.at hr22 (i := 1) rfl
    refine h_ixT hs21 hu ?_
    cases r24
    obtain ⟨gd, P⟩ := P.guard
    refine h_I gd ?_
    refine h_I0 ?_
    exact P.ok _ _ _ st (Rep.bl _)
theorem ok__law_amount {f : Addr} {fd : FuncData}  (F : Fun K "_law_amount" "_law_amount" s__law_amount f fd) {f__law_digit : Addr} {d__law_digit : FuncData} (g__law_digit : mg "_law_digit" = some (.ref f__law_digit)) (k__law_digit : PySem.W.keepIn K (.ref f__law_digit) = true) (b__law_digit : L2.Binds K d__law_digit ["_law_state", "_law_base"] []) (G__law_digit : FnOk Pr wo K mg base CX0 1 f__law_digit d__law_digit ["_law_state", "_law_base"] (sp__law_digit K)) {f__law_lowest : Addr} {d__law_lowest : FuncData} (g__law_lowest : mg "_law_lowest" = some (.ref f__law_lowest)) (k__law_lowest : PySem.W.keepIn K (.ref f__law_lowest) = true) (b__law_lowest : L2.Binds K d__law_lowest ["_law_top", "_law_bottom"] []) (G__law_lowest : FnOk Pr wo K mg base CX0 2 f__law_lowest d__law_lowest ["_law_top", "_law_bottom"] (sp__law_lowest K)) : FnOk Pr wo K mg base CX0 3 f fd ["_law_state"] (sp__law_amount K) := by
  refine F.ok sc__law_amount (fun vs H Q E h => ?_) (fun cdv A outer s H0 vs Q E hr h => ?_)
  · obtain ⟨_, _, _, _, rfl, _⟩ := h; rfl
  · obtain ⟨B0, p_state, a_state, w, rfl, m_state, P⟩ := h
    have w0 := w
    have hu := hu_of hr
    have hu64 := hu64_of hr
    have hr1 : Room 1 _ := hr.mono (by decide)
    have hr2 : Room 2 _ := hr.mono (by decide)
    refine ⟨_, (pss_cons (ps_set (i := 1) sc__law_amount.nd rfl (by first | exact Or.inl rfl | exact Or.inr rfl) (pe_call G__law_digit hr1 rfl g__law_digit k__law_digit b__law_digit .nil pass0 (pa_cons (pv 0) (pa_cons pe_int pa_nil))))
      (pss_cons (ps_set (i := 2) sc__law_amount.nd rfl (by first | exact Or.inl rfl | exact Or.inr rfl) (pe_call G__law_lowest hr2 rfl g__law_lowest k__law_lowest b__law_lowest .nil pass0 (pa_cons (pe_call G__law_digit hr1 rfl g__law_digit k__law_digit b__law_digit .nil pass0 (pa_cons (pv 0) (pa_cons pe_int pa_nil))) (pa_cons (pe_op op_add pe_int (pe_call G__law_digit hr1 rfl g__law_digit k__law_digit b__law_digit .nil pass0 (pa_cons (pv 0) (pa_cons pe_int pa_nil)))) pa_nil))))
      (pss_cons (ps_set (i := 3) sc__law_amount.nd rfl (by first | exact Or.inl rfl | exact Or.inr rfl) (pe_call G__law_lowest hr2 rfl g__law_lowest k__law_lowest b__law_lowest .nil pass0 (pa_cons (pe_op op_add (pe_op op_mul (pe_call G__law_digit hr1 rfl g__law_digit k__law_digit b__law_digit .nil pass0 (pa_cons (pv 0) (pa_cons (pe_op op_pow pe_int pe_int) pa_nil))) (pe_op op_pow pe_int pe_int)) (pe_call G__law_digit hr1 rfl g__law_digit k__law_digit b__law_digit .nil pass0 (pa_cons (pv 0) (pa_cons (pe_op op_pow pe_int pe_int) pa_nil)))) (pa_cons pe_int pa_nil))))
      (pss_cons (ps_set (i := 4) sc__law_amount.nd rfl (by first | exact Or.inl rfl | exact Or.inr rfl) (pe_call G__law_lowest hr2 rfl g__law_lowest k__law_lowest b__law_lowest .nil pass0 (pa_cons (pe_call G__law_digit hr1 rfl g__law_digit k__law_digit b__law_digit .nil pass0 (pa_cons (pv 0) (pa_cons (pe_op op_pow pe_int pe_int) pa_nil))) (pa_cons pe_int pa_nil))))
      (pss_one (ps_ret (pe_ix (r := rIxL K) ix_list (pe_lst (pa_cons (pv 2) (pa_cons (pv 2) (pa_cons (pe_tup (pa_cons (pe_call G__law_digit hr1 rfl g__law_digit k__law_digit b__law_digit .nil pass0 (pa_cons (pv 0) (pa_cons pe_int pa_nil))) (pa_cons pe_int pa_nil))) (pa_cons (pe_tup (pa_cons pe_int (pa_cons pe_int pa_nil))) (pa_cons (pv 2) (pa_cons (pv 4) (pa_cons (pv 3) pa_nil)))))))) (pv 1) (fun _ _ => rfl)))))))), ?_⟩
    unfold l_amount at P
    have st := Stp.refl (W := [p_state]) w
    refine h_set ?_
    refine h_call ?_
    refine h_cons ?_
    refine h_var rfl ?_
    refine h_cons ?_
    refine h_c ?_
    refine h_nil ?_
    refine ⟨B0, p_state, a_state, 7, w, rfl, m_state, (P.bind).mono (fun x1 P => ?_) (fun _ z => z)⟩
    refine fun v5 B2 H3 s4 m_state r6 => ?_
    replace st := st.go s4 (go1 (.inl (by simp)))
    replace w := s4.ok
    cases r6
    refine h_set ?_
    refine h_call ?_
    refine h_cons ?_
    refine h_call ?_
    refine h_cons ?_
    refine h_var rfl ?_
    refine h_cons ?_
    refine h_c ?_
    refine h_nil ?_
    refine ⟨B2, p_state, x1.2, 13, w, rfl, m_state, (P.bind).mono (fun x7 P => ?_) (fun _ z => z)⟩
    refine fun v11 B8 H9 s10 m_state r12 => ?_
    replace st := st.go s10 (go1 (.inl (by simp)))
    replace w := s10.ok
    cases r12
    refine h_cons ?_
    refine h_op ?_
    refine h_c ?_
    refine h_call ?_
    refine h_cons ?_
    refine h_var rfl ?_
    refine h_cons ?_
    refine h_c ?_
    refine h_nil ?_
    refine ⟨B8, p_state, x7.2, 4, w, rfl, m_state, (P.bind).mono (fun x13 P => ?_) (fun _ z => z)⟩
    refine fun v17 B14 H15 s16 m_state r18 => ?_
    replace st := st.go s16 (go1 (.inl (by simp)))
    replace w := s16.ok
    cases r18
    refine h_I0 ?_
    refine h_nil ?_
    refine ⟨B14, x7.1, (1 + x13.1), w, rfl, (P.bind).mono (fun x19 P => ?_) (fun _ z => z)⟩
    refine fun v23 B20 H21 s22 r24 => ?_
    replace m_state := m_state.step s22 nm0
    replace st := st.go s22 go0
    replace w := s22.ok
    refine h_set ?_
    refine h_call ?_
    refine h_cons ?_
    refine h_op ?_
    refine h_op ?_
    refine h_call ?_
    refine h_cons ?_
    refine h_var rfl ?_
    refine h_cons ?_
    refine h_op (h_c (h_c (h_pow (k := 1000000000) (by decide +kernel) (by decide +kernel) ?_)))
    refine h_nil ?_
    refine ⟨B20, p_state, x13.2, 1000000000, w, rfl, m_state, (P.bind).mono (fun x25 P => ?_) (fun _ z => z)⟩
    refine fun v29 B26 H27 s28 m_state r30 => ?_
    replace r24 := r24.mono s28.ex
    replace st := st.go s28 (go1 (.inl (by simp)))
    replace w := s28.ok
    cases r30
    refine h_op (h_c (h_c (h_pow (k := 1000000) (by decide +kernel) (by decide +kernel) ?_)))
    refine h_I (.inr ⟨by decide +kernel, by decide +kernel⟩) ?_
    refine h_call ?_
    refine h_cons ?_
    refine h_var rfl ?_
    refine h_cons ?_
    refine h_op (h_c (h_c (h_pow (k := 1000000) (by decide +kernel) (by decide +kernel) ?_)))
    refine h_nil ?_
    refine ⟨B26, p_state, x25.2, 1000000, w, rfl, m_state, (P.bind).mono (fun x31 P => ?_) (fun _ z => z)⟩
    refine fun v35 B32 H33 s34 m_state r36 => ?_
    replace r24 := r24.mono s34.ex
    replace st := st.go s34 (go1 (.inl (by simp)))
    replace w := s34.ok
    cases r36
    refine h_I0 ?_
    refine h_cons ?_
    refine h_c ?_
    refine h_nil ?_
    refine ⟨B32, ((x25.1 * 1000000) + x31.1), 1000003, w, rfl, (P.bind).mono (fun x37 P => ?_) (fun _ z => z)⟩
    refine fun v41 B38 H39 s40 r42 => ?_
    replace m_state := m_state.step s40 nm0
    replace r24 := r24.mono s40.ex
    replace st := st.go s40 go0
    replace w := s40.ok
    refine h_set ?_
    refine h_call ?_
    refine h_cons ?_
    refine h_call ?_
    refine h_cons ?_
    refine h_var rfl ?_
    refine h_cons ?_
    refine h_op (h_c (h_c (h_pow (k := 1000000000) (by decide +kernel) (by decide +kernel) ?_)))
    refine h_nil ?_
    refine ⟨B38, p_state, x31.2, 1000000000, w, rfl, m_state, (P.bind).mono (fun x43 P => ?_) (fun _ z => z)⟩
    refine fun v47 B44 H45 s46 m_state r48 => ?_
    replace r24 := r24.mono s46.ex
    replace r42 := r42.mono s46.ex
    replace st := st.go s46 (go1 (.inl (by simp)))
    replace w := s46.ok
    cases r48
    refine h_cons ?_
    refine h_c ?_
    refine h_nil ?_
    refine ⟨B44, x43.1, 997, w, rfl, (P.bind).mono (fun x49 P => ?_) (fun _ z => z)⟩
    refine fun v53 B50 H51 s52 r54 => ?_
    replace m_state := m_state.step s52 nm0
    replace r24 := r24.mono s52.ex
    replace r42 := r42.mono s52.ex
    replace st := st.go s52 go0
    replace w := s52.ok
    refine h_ret ?_
    refine h_op ?_
    refine h_lst ?_
    refine h_cons ?_
    refine h_var rfl ?_
    refine h_cons ?_
    refine h_var rfl ?_
    refine h_cons ?_
    refine h_tup ?_
    refine h_cons ?_
    refine h_call ?_
    refine h_cons ?_
    refine h_var rfl ?_
    refine h_cons ?_
    refine h_c ?_
    refine h_nil ?_
    refine ⟨B50, p_state, x43.2, 7, w, rfl, m_state, (P.bind).mono (fun x55 P => ?_) (fun _ z => z)⟩
    refine fun v59 B56 H57 s58 m_state r60 => ?_
    replace r24 := r24.mono s58.ex
    replace r42 := r42.mono s58.ex
    replace r54 := r54.mono s58.ex
    replace st := st.go s58 (go1 (.inl (by simp)))
    replace w := s58.ok
    cases r60
    refine h_cons ?_
    refine h_c ?_
    refine h_nil ?_
    refine h_newT w (K := K) (.cons (Rep.int _) (.cons (Rep.int _) .nil)) (fun p61 B62 H63 s64 r65 => ?_) (by show 2 ≤ sizeLine; decide)
    replace m_state := m_state.step s64 nm0
    replace r24 := r24.mono s64.ex
    replace r42 := r42.mono s64.ex
    replace r54 := r54.mono s64.ex
    replace st := st.go s64 go0
    replace w := s64.ok
    replace r65 : Rep K B62 (.ref p61) (enc (⟨x55.1, 1⟩ : (Tp2 Int Int))) := r65
    refine h_cons ?_
    refine h_tup ?_
    refine h_cons ?_
    refine h_c ?_
    refine h_cons ?_
    refine h_c ?_
    refine h_nil ?_
    refine h_newT w (K := K) (.cons (Rep.int _) (.cons (Rep.int _) .nil)) (fun p66 B67 H68 s69 r70 => ?_) (by show 2 ≤ sizeLine; decide)
    replace m_state := m_state.step s69 nm0
    replace r24 := r24.mono s69.ex
    replace r42 := r42.mono s69.ex
    replace r54 := r54.mono s69.ex
    replace r65 := r65.mono s69.ex
    replace st := st.go s69 go0
    replace w := s69.ok
    replace r70 : Rep K B67 (.ref p66) (enc (⟨0, 1⟩ : (Tp2 Int Int))) := r70
    refine h_cons ?_
    refine h_var rfl ?_
    refine h_cons ?_
    refine h_var rfl ?_
    refine h_cons ?_
    refine h_var rfl ?_
    refine h_nil ?_
    refine h_newL w (ds := (([x19, x19, (⟨x55.1, 1⟩ : (Tp2 Int Int)), (⟨0, 1⟩ : (Tp2 Int Int)), x19, x49, x37] : List (Tp2 Int Int))).map enc) (K := K) (.cons r24 (.cons r24 (.cons r65 (.cons r70 (.cons r24 (.cons r54 (.cons r42 .nil))))))) (fun p71 B72 H73 s74 r75 => ?_) (by show 7 ≤ sizeLine; decide)
    replace m_state := m_state.step s74 nm0
    replace r24 := r24.mono s74.ex
    replace r42 := r42.mono s74.ex
    replace r54 := r54.mono s74.ex
    replace st := st.go s74 go0
    replace w := s74.ok
    replace r75 : Rep K B72 (.ref p71) (enc ([x19, x19, (⟨x55.1, 1⟩ : (Tp2 Int Int)), (⟨0, 1⟩ : (Tp2 Int Int)), x19, x49, x37] : List (Tp2 Int Int))) := r75
    refine h_var rfl ?_
    obtain ⟨p76, xs77, hv, hs78, hr79⟩ := Rep.sq w r75
    cases hv
    obtain ⟨x80, hx81, P⟩ := P.ix
    obtain ⟨u82, hu, r83⟩ := RepL.atE hr79 hx81
    refine h_ixL hs78 hu ?_
    exact P.ok _ _ _ st m_state r83
theorem ok__law_edit {f : Addr} {fd : FuncData}  (F : Fun K "_law_edit" "_law_edit" s__law_edit f fd) {f__law_digit : Addr} {d__law_digit : FuncData} (g__law_digit : mg "_law_digit" = some (.ref f__law_digit)) (k__law_digit : PySem.W.keepIn K (.ref f__law_digit) = true) (b__law_digit : L2.Binds K d__law_digit ["_law_state", "_law_base"] []) (G__law_digit : FnOk Pr wo K mg base CX0 1 f__law_digit d__law_digit ["_law_state", "_law_base"] (sp__law_digit K)) {f__law_plus : Addr} {d__law_plus : FuncData} (g__law_plus : mg "_law_plus" = some (.ref f__law_plus)) (k__law_plus : PySem.W.keepIn K (.ref f__law_plus) = true) (b__law_plus : L2.Binds K d__law_plus ["_law_left", "_law_right_here"] []) (G__law_plus : FnOk Pr wo K mg base CX0 3 f__law_plus d__law_plus ["_law_left", "_law_right_here"] (sp__law_plus K)) {f__law_amount : Addr} {d__law_amount : FuncData} (g__law_amount : mg "_law_amount" = some (.ref f__law_amount)) (k__law_amount : PySem.W.keepIn K (.ref f__law_amount) = true) (b__law_amount : L2.Binds K d__law_amount ["_law_state"] []) (G__law_amount : FnOk Pr wo K mg base CX0 3 f__law_amount d__law_amount ["_law_state"] (sp__law_amount K)) {f__law_lowest : Addr} {d__law_lowest : FuncData} (g__law_lowest : mg "_law_lowest" = some (.ref f__law_lowest)) (k__law_lowest : PySem.W.keepIn K (.ref f__law_lowest) = true) (b__law_lowest : L2.Binds K d__law_lowest ["_law_top", "_law_bottom"] []) (G__law_lowest : FnOk Pr wo K mg base CX0 2 f__law_lowest d__law_lowest ["_law_top", "_law_bottom"] (sp__law_lowest K)) {f__law_times : Addr} {d__law_times : FuncData} (g__law_times : mg "_law_times" = some (.ref f__law_times)) (k__law_times : PySem.W.keepIn K (.ref f__law_times) = true) (b__law_times : L2.Binds K d__law_times ["_law_left", "_law_right_here"] []) (G__law_times : FnOk Pr wo K mg base CX0 3 f__law_times d__law_times ["_law_left", "_law_right_here"] (sp__law_times K)) : FnOk Pr wo K mg base CX0 4 f fd ["_law_state", "_law_ahead"] (sp__law_edit K) := by
  refine F.ok sc__law_edit (fun vs H Q E h => ?_) (fun cdv A outer s H0 vs Q E hr h => ?_)
  · obtain ⟨_, _, _, _, _, _, rfl, _⟩ := h; rfl
  · obtain ⟨B0, p_state, a_state, v_ahead, a_ahead, w, rfl, m_state, r_ahead, P⟩ := h
    have w0 := w
    have hu := hu_of hr
    have hu64 := hu64_of hr
    have hr1 : Room 1 _ := hr.mono (by decide)
    have hr2 : Room 2 _ := hr.mono (by decide)
    have hr3 : Room 3 _ := hr.mono (by decide)
    refine ⟨_, (pss_cons (ps_set (i := 2) sc__law_edit.nd rfl (by first | exact Or.inl rfl | exact Or.inr rfl) (pe_call G__law_digit hr1 rfl g__law_digit k__law_digit b__law_digit .nil pass0 (pa_cons (pv 0) (pa_cons pe_int pa_nil))))
      (pss_cons (ps_set (i := 3) sc__law_edit.nd rfl (by first | exact Or.inl rfl | exact Or.inr rfl) (pe_call G__law_plus hr3 rfl g__law_plus k__law_plus b__law_plus .nil pass0 (pa_cons (pe_call G__law_amount hr3 rfl g__law_amount k__law_amount b__law_amount .nil pass0 (pa_cons (pv 0) pa_nil)) (pa_cons (pe_call G__law_lowest hr2 rfl g__law_lowest k__law_lowest b__law_lowest .nil pass0 (pa_cons pe_int (pa_cons (pe_op op_add pe_int (pe_call G__law_digit hr1 rfl g__law_digit k__law_digit b__law_digit .nil pass0 (pa_cons (pv 0) (pa_cons pe_int pa_nil)))) pa_nil))) pa_nil))))
      (pss_cons (ps_set (i := 4) sc__law_edit.nd rfl (by first | exact Or.inl rfl | exact Or.inr rfl) (pe_call G__law_amount hr3 rfl g__law_amount k__law_amount b__law_amount .nil pass0 (pa_cons (pv 0) pa_nil)))
      (pss_cons (ps_set (i := 5) sc__law_edit.nd rfl (by first | exact Or.inl rfl | exact Or.inr rfl) (pe_ix (r := rIxL K) ix_list (pe_lst (pa_cons (pe_tup (pa_cons pe_int (pa_cons pe_int pa_nil))) (pa_cons (pe_tup (pa_cons pe_int (pa_cons pe_int pa_nil))) (pa_cons (pe_tup (pa_cons pe_int (pa_cons pe_int pa_nil))) (pa_cons (pe_tup (pa_cons pe_int (pa_cons pe_int pa_nil))) (pa_cons (pe_tup (pa_cons pe_int (pa_cons pe_int pa_nil))) (pa_cons (pe_call G__law_amount hr3 rfl g__law_amount k__law_amount b__law_amount .nil pass0 (pa_cons (pv 0) pa_nil)) pa_nil))))))) (pe_call G__law_digit hr1 rfl g__law_digit k__law_digit b__law_digit .nil pass0 (pa_cons (pv 0) (pa_cons pe_int pa_nil))) (fun _ _ => rfl)))
      (pss_cons (ps_if (pt_cmpR op_eq (pv 2) pe_int (nomark _)) (pss_one (ps_ret (pe_tup (pa_cons (pv 3) (pa_cons pe_non (pa_cons (pe_tup (pa_cons pe_int (pa_cons pe_int pa_nil))) pa_nil)))))) pss_nil)
      (pss_cons (ps_if (PW.pt (pw_and (pt_cmpR op_lt (pv 2) pe_int (nomark _)) (pw_and (pt_cmpR (r := rNeD K) (op_neD hu64) (pv 1) (pe_lst pa_nil) (nomark _)) (pw_and1 (pt_cmpR op_notNn (pe_ix (r := rIxT K) ix_tup (pe_ix (r := rIxL K) ix_list (pv 1) (pe_un un_neg pe_int) (fun _ _ => rfl)) pe_int (fun _ _ => rfl)) pe_non (nomark _)))))) (pss_cons (ps_set (i := 6) sc__law_edit.nd rfl (by first | exact Or.inl rfl | exact Or.inr rfl) (pe_ix (r := rIxL K) ix_list (pv 1) (pe_un un_neg pe_int) (fun _ _ => rfl)))
      (pss_one (ps_ret (pe_tup (pa_cons (pv 3) (pa_cons (pe_call G__law_plus hr3 rfl g__law_plus k__law_plus b__law_plus .nil pass0 (pa_cons (pe_ix (r := rIxT K) ix_tup (pv 6) pe_int (fun _ _ => rfl)) (pa_cons (pe_call G__law_times hr3 rfl g__law_times k__law_times b__law_times .nil pass0 (pa_cons (pe_ix (r := rIxT K) ix_tup (pv 6) pe_int (fun _ _ => rfl)) (pa_cons (pe_ix (r := rIxT K) ix_tup (pv 6) pe_int (fun _ _ => rfl)) pa_nil))) pa_nil))) (pa_cons (pe_ix (r := rIxT K) ix_tup (pv 6) pe_int (fun _ _ => rfl)) pa_nil))))))) pss_nil)
      (pss_one (ps_ret (pe_tup (pa_cons (pv 3) (pa_cons (pv 4) (pa_cons (pv 5) pa_nil)))))))))))), ?_⟩
    unfold l_edit at P
    have st := Stp.refl (W := [p_state]) w
    refine h_set ?_
    refine h_call ?_
    refine h_cons ?_
    refine h_var rfl ?_
    refine h_cons ?_
    refine h_c ?_
    refine h_nil ?_
    refine ⟨B0, p_state, a_state, 7, w, rfl, m_state, (P.bind).mono (fun x1 P => ?_) (fun _ z => z)⟩
    refine fun v5 B2 H3 s4 m_state r6 => ?_
    replace st := st.go s4 (go1 (.inl (by simp)))
    replace w := s4.ok
    cases r6
    refine h_set ?_
    refine h_call ?_
    refine h_cons ?_
    refine h_call ?_
    refine h_cons ?_
    refine h_var rfl ?_
    refine h_nil ?_
    refine ⟨B2, p_state, x1.2, w, rfl, m_state, (P.bind).mono (fun x7 P => ?_) (fun _ z => z)⟩
    refine fun v11 B8 H9 s10 m_state r12 => ?_
    replace st := st.go s10 (go1 (.inl (by simp)))
    replace w := s10.ok
    refine h_cons ?_
    refine h_call ?_
    refine h_cons ?_
    refine h_c ?_
    refine h_cons ?_
    refine h_op ?_
    refine h_c ?_
    refine h_call ?_
    refine h_cons ?_
    refine h_var rfl ?_
    refine h_cons ?_
    refine h_c ?_
    refine h_nil ?_
    refine ⟨B8, p_state, x7.2, 3, w, rfl, m_state, (P.bind).mono (fun x13 P => ?_) (fun _ z => z)⟩
    refine fun v17 B14 H15 s16 m_state r18 => ?_
    replace r12 := r12.mono s16.ex
    replace st := st.go s16 (go1 (.inl (by simp)))
    replace w := s16.ok
    cases r18
    refine h_I0 ?_
    refine h_nil ?_
    refine ⟨B14, 1, (1 + x13.1), w, rfl, (P.bind).mono (fun x19 P => ?_) (fun _ z => z)⟩
    refine fun v23 B20 H21 s22 r24 => ?_
    replace m_state := m_state.step s22 nm0
    replace r12 := r12.mono s22.ex
    replace st := st.go s22 go0
    replace w := s22.ok
    refine h_nil ?_
    refine ⟨B20, v11, x7.1, v23, x19, w, rfl, r12, r24, (P.bind).mono (fun x25 P => ?_) (fun _ z => z)⟩
    refine fun v29 B26 H27 s28 r30 => ?_
    replace m_state := m_state.step s28 nm0
    replace r12 := r12.mono s28.ex
    replace r24 := r24.mono s28.ex
    replace st := st.go s28 go0
    replace w := s28.ok
    refine h_set ?_
    refine h_call ?_
    refine h_cons ?_
    refine h_var rfl ?_
    refine h_nil ?_
    refine ⟨B26, p_state, x13.2, w, rfl, m_state, (P.bind).mono (fun x31 P => ?_) (fun _ z => z)⟩
    refine fun v35 B32 H33 s34 m_state r36 => ?_
    replace r30 := r30.mono s34.ex
    replace st := st.go s34 (go1 (.inl (by simp)))
    replace w := s34.ok
    refine h_set ?_
    refine h_op ?_
    refine h_lst ?_
    refine h_cons ?_
    refine h_tup ?_
    refine h_cons ?_
    refine h_c ?_
    refine h_cons ?_
    refine h_c ?_
    refine h_nil ?_
    refine h_newT w (K := K) (.cons (Rep.int _) (.cons (Rep.int _) .nil)) (fun p37 B38 H39 s40 r41 => ?_) (by show 2 ≤ sizeLine; decide)
    replace m_state := m_state.step s40 nm0
    replace r30 := r30.mono s40.ex
    replace r36 := r36.mono s40.ex
    replace st := st.go s40 go0
    replace w := s40.ok
    replace r41 : Rep K B38 (.ref p37) (enc (⟨1, 1⟩ : (Tp2 Int Int))) := r41
    refine h_cons ?_
    refine h_tup ?_
    refine h_cons ?_
    refine h_c ?_
    refine h_cons ?_
    refine h_c ?_
    refine h_nil ?_
    refine h_newT w (K := K) (.cons (Rep.int _) (.cons (Rep.int _) .nil)) (fun p42 B43 H44 s45 r46 => ?_) (by show 2 ≤ sizeLine; decide)
    replace m_state := m_state.step s45 nm0
    replace r30 := r30.mono s45.ex
    replace r36 := r36.mono s45.ex
    replace r41 := r41.mono s45.ex
    replace st := st.go s45 go0
    replace w := s45.ok
    replace r46 : Rep K B43 (.ref p42) (enc (⟨1, 1⟩ : (Tp2 Int Int))) := r46
    refine h_cons ?_
    refine h_tup ?_
    refine h_cons ?_
    refine h_c ?_
    refine h_cons ?_
    refine h_c ?_
    refine h_nil ?_
    refine h_newT w (K := K) (.cons (Rep.int _) (.cons (Rep.int _) .nil)) (fun p47 B48 H49 s50 r51 => ?_) (by show 2 ≤ sizeLine; decide)
    replace m_state := m_state.step s50 nm0
    replace r30 := r30.mono s50.ex
    replace r36 := r36.mono s50.ex
    replace r41 := r41.mono s50.ex
    replace r46 := r46.mono s50.ex
    replace st := st.go s50 go0
    replace w := s50.ok
    replace r51 : Rep K B48 (.ref p47) (enc (⟨0, 1⟩ : (Tp2 Int Int))) := r51
    refine h_cons ?_
    refine h_tup ?_
    refine h_cons ?_
    refine h_c ?_
    refine h_cons ?_
    refine h_c ?_
    refine h_nil ?_
    refine h_newT w (K := K) (.cons (Rep.int _) (.cons (Rep.int _) .nil)) (fun p52 B53 H54 s55 r56 => ?_) (by show 2 ≤ sizeLine; decide)
    replace m_state := m_state.step s55 nm0
    replace r30 := r30.mono s55.ex
    replace r36 := r36.mono s55.ex
    replace r41 := r41.mono s55.ex
    replace r46 := r46.mono s55.ex
    replace r51 := r51.mono s55.ex
    replace st := st.go s55 go0
    replace w := s55.ok
    replace r56 : Rep K B53 (.ref p52) (enc (⟨2, 1⟩ : (Tp2 Int Int))) := r56
    refine h_cons ?_
    refine h_tup ?_
    refine h_cons ?_
    refine h_c ?_
    refine h_cons ?_
    refine h_c ?_
    refine h_nil ?_
    refine h_newT w (K := K) (.cons (Rep.int _) (.cons (Rep.int _) .nil)) (fun p57 B58 H59 s60 r61 => ?_) (by show 2 ≤ sizeLine; decide)
    replace m_state := m_state.step s60 nm0
    replace r30 := r30.mono s60.ex
    replace r36 := r36.mono s60.ex
    replace r41 := r41.mono s60.ex
    replace r46 := r46.mono s60.ex
    replace r51 := r51.mono s60.ex
    replace r56 := r56.mono s60.ex
    replace st := st.go s60 go0
    replace w := s60.ok
    replace r61 : Rep K B58 (.ref p57) (enc (⟨1, 2⟩ : (Tp2 Int Int))) := r61
    refine h_cons ?_
    refine h_call ?_
    refine h_cons ?_
    refine h_var rfl ?_
    refine h_nil ?_
    refine ⟨B58, p_state, x31.2, w, rfl, m_state, (P.bind).mono (fun x62 P => ?_) (fun _ z => z)⟩
    refine fun v66 B63 H64 s65 m_state r67 => ?_
    replace r30 := r30.mono s65.ex
    replace r36 := r36.mono s65.ex
    replace r41 := r41.mono s65.ex
    replace r46 := r46.mono s65.ex
    replace r51 := r51.mono s65.ex
    replace r56 := r56.mono s65.ex
    replace r61 := r61.mono s65.ex
    replace st := st.go s65 (go1 (.inl (by simp)))
    replace w := s65.ok
    refine h_nil ?_
    refine h_newL w (ds := (([(⟨1, 1⟩ : (Tp2 Int Int)), (⟨1, 1⟩ : (Tp2 Int Int)), (⟨0, 1⟩ : (Tp2 Int Int)), (⟨2, 1⟩ : (Tp2 Int Int)), (⟨1, 2⟩ : (Tp2 Int Int)), x62.1] : List (Tp2 Int Int))).map enc) (K := K) (.cons r41 (.cons r46 (.cons r51 (.cons r56 (.cons r61 (.cons r67 .nil)))))) (fun p68 B69 H70 s71 r72 => ?_) (by show 6 ≤ sizeLine; decide)
    replace m_state := m_state.step s71 nm0
    replace r30 := r30.mono s71.ex
    replace r36 := r36.mono s71.ex
    replace st := st.go s71 go0
    replace w := s71.ok
    replace r72 : Rep K B69 (.ref p68) (enc ([(⟨1, 1⟩ : (Tp2 Int Int)), (⟨1, 1⟩ : (Tp2 Int Int)), (⟨0, 1⟩ : (Tp2 Int Int)), (⟨2, 1⟩ : (Tp2 Int Int)), (⟨1, 2⟩ : (Tp2 Int Int)), x62.1] : List (Tp2 Int Int))) := r72
    refine h_call ?_
    refine h_cons ?_
    refine h_var rfl ?_
    refine h_cons ?_
    refine h_c ?_
    refine h_nil ?_
    refine ⟨B69, p_state, x62.2, 6, w, rfl, m_state, (P.bind).mono (fun x73 P => ?_) (fun _ z => z)⟩
    refine fun v77 B74 H75 s76 m_state r78 => ?_
    replace r30 := r30.mono s76.ex
    replace r36 := r36.mono s76.ex
    replace r72 := r72.mono s76.ex
    replace st := st.go s76 (go1 (.inl (by simp)))
    replace w := s76.ok
    cases r78
    obtain ⟨p79, xs80, hv, hs81, hr82⟩ := Rep.sq w r72
    cases hv
    obtain ⟨x83, hx84, P⟩ := P.ix
    obtain ⟨u85, hu, r86⟩ := RepL.atE hr82 hx84
    refine h_ixL hs81 hu ?_
    refine h_seq <| h_if ?_
    refine h_test ?_
    refine h_op ?_
    refine h_var rfl ?_
    refine h_c ?_
    refine h_eqI ?_
    refine h_bl ?_
    refine h_ite (fun c1 => ?_) (fun c1 => ?_)
    · replace P := P.iteT c1
      refine h_ret ?_
      refine h_tup ?_
      refine h_cons ?_
      refine h_var rfl ?_
      refine h_cons ?_
      refine h_c ?_
      refine h_cons ?_
      refine h_tup ?_
      refine h_cons ?_
      refine h_c ?_
      refine h_cons ?_
      refine h_c ?_
      refine h_nil ?_
      refine h_newT w (K := K) (.cons (Rep.int _) (.cons (Rep.int _) .nil)) (fun p87 B88 H89 s90 r91 => ?_) (by show 2 ≤ sizeLine; decide)
      replace m_state := m_state.step s90 nm0
      replace r30 := r30.mono s90.ex
      replace r36 := r36.mono s90.ex
      replace r86 := r86.mono s90.ex
      replace st := st.go s90 go0
      replace w := s90.ok
      replace r91 : Rep K B88 (.ref p87) (enc (⟨0, 1⟩ : (Tp2 Int Int))) := r91
      refine h_nil ?_
      refine h_newT w (K := K) (.cons r30 (.cons Rep.non (.cons r91 .nil))) (fun p92 B93 H94 s95 r96 => ?_) (by show 3 ≤ sizeLine; decide)
      replace m_state := m_state.step s95 nm0
      replace r30 := r30.mono s95.ex
      replace r36 := r36.mono s95.ex
      replace r86 := r86.mono s95.ex
      replace st := st.go s95 go0
      replace w := s95.ok
      replace r96 : Rep K B93 (.ref p92) (enc (⟨x25, (), (⟨0, 1⟩ : (Tp2 Int Int))⟩ : (Tp3 (Tp2 Int Int) Unit (Tp2 Int Int)))) := r96
      exact P.ok _ _ _ st m_state r96
    · replace P := P.iteF c1
      refine h_next ?_
      refine h_nx ?_
      refine h_seq <| h_if ?_
      have wj98 := w
      have sj97 := Stp.refl (W := []) w
      refine h_condJ P (fun H' => ∃ B', Stp [] B74 H75 B' H') (fun N kk99 P => ?_) ?_
      · skip
        refine h_tand ?_
        refine h_test ?_
        refine h_op ?_
        refine h_var rfl ?_
        refine h_c ?_
        refine h_I0 ?_
        refine h_bl ?_
        refine h_ite (fun c1 => ?_) (fun c1 => ?_)
        · replace P := P.iteT c1
          refine h_tand ?_
          refine h_test ?_
          refine h_op ?_
          refine h_var rfl ?_
          refine h_lst ?_
          refine h_nil ?_
          refine h_newL w (ds := (([] : List D)).map enc) (K := K) .nil (fun p100 B101 H102 s103 r104 => ?_) (by show 0 ≤ sizeLine; decide)
          replace m_state := m_state.step s103 nm0
          replace r30 := r30.mono s103.ex
          replace r36 := r36.mono s103.ex
          replace r86 := r86.mono s103.ex
          replace st := st.go s103 go0
          replace sj97 := sj97.go s103 go0
          replace w := s103.ok
          replace r104 : Rep K B101 (.ref p100) (enc ([] : List D)) := r104
          obtain ⟨gd, P⟩ := P.guard
          obtain ⟨p105, xs106, rfl, hs107, hr108⟩ := Bor.sq (r_ahead.step st)
          refine h_neC (d := (enc a_ahead)) (e := (enc ([] : List D))) (SqL.cp w hs107 hr108) (Rep.cp w r104) gd ?_
          refine h_bl ?_
          refine h_ite (fun c1 => ?_) (fun c1 => ?_)
          · replace P := P.iteT c1
            refine h_test ?_
            refine h_op ?_
            refine h_op ?_
            refine h_op ?_
            refine h_var rfl ?_
            refine h_un ?_
            refine h_c ?_
            refine h_U ?_
            obtain ⟨p109, xs110, hv, hs111, hr112⟩ := Bor.sq (r_ahead.step st)
            cases hv
            obtain ⟨x113, hx114, P⟩ := P.ix
            obtain ⟨u115, hu, r116⟩ := RepL.atE hr112 hx114
            refine h_ixL hs111 hu ?_
            refine h_c ?_
            obtain ⟨p117, xs118, rfl, hs119, hr120⟩ := Rep.st w r116
            obtain ⟨u121, hu, r122⟩ := RepL.at hr120 (i := 1) rfl
            refine h_ixT hs119 hu ?_
            refine h_c ?_
            refine h_notN r122 ?_
            refine h_bl ?_
            exact kk99 _ _ ⟨_, sj97⟩ P.ok
          · replace P := P.iteF c1
            exact kk99 _ _ ⟨_, sj97⟩ P.ok
        · replace P := P.iteF c1
          exact kk99 _ _ ⟨_, sj97⟩ P.ok
      rintro b123 H125 ⟨B124, s126⟩ P
      replace m_state := m_state.step s126 nm0
      replace r30 := r30.mono s126.ex
      replace r36 := r36.mono s126.ex
      replace r86 := r86.mono s126.ex
      replace st := st.go s126 go0
      replace w := s126.ok
      refine h_ite (fun c1 => ?_) (fun c1 => ?_)
      · replace P := P.iteT c1
        refine h_set ?_
        refine h_op ?_
        refine h_var rfl ?_
        refine h_un ?_
        refine h_c ?_
        refine h_U ?_
        obtain ⟨p127, xs128, rfl, hs129, hr130⟩ := Bor.sq (r_ahead.step st)
        obtain ⟨x131, hx132, P⟩ := P.ix
        obtain ⟨u133, hu, r134⟩ := RepL.atE hr130 hx132
        refine h_ixL hs129 hu ?_
        refine h_ret ?_
        refine h_tup ?_
        refine h_cons ?_
        refine h_var rfl ?_
        refine h_cons ?_
        refine h_call ?_
        refine h_cons ?_
        refine h_op ?_
        refine h_var rfl ?_
        refine h_c ?_
        obtain ⟨p135, xs136, rfl, hs137, hr138⟩ := Rep.st w r134
        obtain ⟨u139, hu, r140⟩ := RepL.at hr138 (i := 1) rfl
        refine h_ixT hs137 hu ?_
        refine h_cons ?_
        refine h_call ?_
        refine h_cons ?_
        refine h_op ?_
        refine h_var rfl ?_
        refine h_c ?_
        obtain ⟨p141, xs142, hv, hs143, hr144⟩ := Rep.st w r134
        cases hv
        obtain ⟨u145, hu, r146⟩ := RepL.at hr144 (i := 2) rfl
        refine h_ixT hs143 hu ?_
        refine h_cons ?_
        refine h_op ?_
        refine h_var rfl ?_
        refine h_c ?_
        obtain ⟨p147, xs148, hv, hs149, hr150⟩ := Rep.st w r134
        cases hv
        obtain ⟨u151, hu, r152⟩ := RepL.at hr150 (i := 0) rfl
        refine h_ixT hs149 hu ?_
        refine h_nil ?_
        refine ⟨B124, u145, x131.c, u151, x131.a, w, rfl, r146, r152, (P.bind).mono (fun x153 P => ?_) (fun _ z => z)⟩
        refine fun v157 B154 H155 s156 r158 => ?_
        replace m_state := m_state.step s156 nm0
        replace r30 := r30.mono s156.ex
        replace r36 := r36.mono s156.ex
        replace r86 := r86.mono s156.ex
        replace r134 := r134.mono s156.ex
        replace r140 := r140.mono s156.ex
        replace r146 := r146.mono s156.ex
        replace r152 := r152.mono s156.ex
        replace st := st.go s156 go0
        replace w := s156.ok
        refine h_nil ?_
        obtain ⟨x159, hx160, P⟩ := P.some
        have rc161 := r140
        rw [hx160] at rc161
        replace rc161 : Rep K B154 u139 (enc x159) := rc161
        refine ⟨B154, u139, x159, v157, x153, w, rfl, rc161, r158, (P.bind).mono (fun x162 P => ?_) (fun _ z => z)⟩
        refine fun v166 B163 H164 s165 r167 => ?_
        replace m_state := m_state.step s165 nm0
        replace r30 := r30.mono s165.ex
        replace r36 := r36.mono s165.ex
        replace r86 := r86.mono s165.ex
        replace r134 := r134.mono s165.ex
        replace r140 := r140.mono s165.ex
        replace r158 := r158.mono s165.ex
        replace st := st.go s165 go0
        replace w := s165.ok
        refine h_cons ?_
        refine h_op ?_
        refine h_var rfl ?_
        refine h_c ?_
        obtain ⟨p168, xs169, hv, hs170, hr171⟩ := Rep.st w r134
        cases hv
        obtain ⟨u172, hu, r173⟩ := RepL.at hr171 (i := 2) rfl
        refine h_ixT hs170 hu ?_
        refine h_nil ?_
        refine h_newT w (K := K) (.cons r30 (.cons r167 (.cons r173 .nil))) (fun p174 B175 H176 s177 r178 => ?_) (by show 3 ≤ sizeLine; decide)
        replace m_state := m_state.step s177 nm0
        replace r30 := r30.mono s177.ex
        replace r36 := r36.mono s177.ex
        replace r86 := r86.mono s177.ex
        replace r134 := r134.mono s177.ex
        replace st := st.go s177 go0
        replace w := s177.ok
        replace r178 : Rep K B175 (.ref p174) (enc (⟨x25, x162, x131.c⟩ : (Tp3 (Tp2 Int Int) (Tp2 Int Int) (Tp2 Int Int)))) := r178
        exact P.ok _ _ _ st m_state r178
      · replace P := P.iteF c1
        refine h_next ?_
        refine h_nx ?_
        refine h_ret ?_
        refine h_tup ?_
        refine h_cons ?_
        refine h_var rfl ?_
        refine h_cons ?_
        refine h_var rfl ?_
        refine h_cons ?_
        refine h_var rfl ?_
        refine h_nil ?_
        refine h_newT w (K := K) (.cons r30 (.cons r36 (.cons r86 .nil))) (fun p179 B180 H181 s182 r183 => ?_) (by show 3 ≤ sizeLine; decide)
        replace m_state := m_state.step s182 nm0
        replace r30 := r30.mono s182.ex
        replace r36 := r36.mono s182.ex
        replace r86 := r86.mono s182.ex
        replace st := st.go s182 go0
        replace w := s182.ok
        replace r183 : Rep K B180 (.ref p179) (enc (⟨x25, x31.1, x83⟩ : (Tp3 (Tp2 Int Int) (Tp2 Int Int) (Tp2 Int Int)))) := r183
        exact P.ok _ _ _ st m_state r183
theorem ok__law_edits {f : Addr} {fd : FuncData}  (F : Fun K "_law_edits" "_law_edits" s__law_edits f fd) {f__law_digit : Addr} {d__law_digit : FuncData} (g__law_digit : mg "_law_digit" = some (.ref f__law_digit)) (k__law_digit : PySem.W.keepIn K (.ref f__law_digit) = true) (b__law_digit : L2.Binds K d__law_digit ["_law_state", "_law_base"] []) (G__law_digit : FnOk Pr wo K mg base CX0 1 f__law_digit d__law_digit ["_law_state", "_law_base"] (sp__law_digit K)) {f__law_edit : Addr} {d__law_edit : FuncData} (g__law_edit : mg "_law_edit" = some (.ref f__law_edit)) (k__law_edit : PySem.W.keepIn K (.ref f__law_edit) = true) (b__law_edit : L2.Binds K d__law_edit ["_law_state", "_law_ahead"] []) (G__law_edit : FnOk Pr wo K mg base CX0 4 f__law_edit d__law_edit ["_law_state", "_law_ahead"] (sp__law_edit K)) (bI_range : mg "range" = none) : FnOk Pr wo K mg base CX0 5 f fd ["_law_state", "_law_few"] (sp__law_edits K) := by
  refine F.ok sc__law_edits (fun vs H Q E h => ?_) (fun cdv A outer s H0 vs Q E hr h => ?_)
  · obtain ⟨_, _, _, _, _, rfl, _⟩ := h; rfl
  · obtain ⟨B0, p_state, a_state, a_few, w, rfl, m_state, P⟩ := h
    have w0 := w
    have hu := hu_of hr
    have hu64 := hu64_of hr
    have hr1 : Room 1 _ := hr.mono (by decide)
    have hr4 : Room 4 _ := hr.mono (by decide)
    refine ⟨_, (pss_cons (ps_set (i := 2) sc__law_edits.nd rfl (by first | exact Or.inl rfl | exact Or.inr rfl) (pe_lst pa_nil))
      (pss_cons (ps_for PassesOwn.never rfl (pi_range1 (by rfl) bI_range (pa_cons (pe_call G__law_digit hr1 rfl g__law_digit k__law_digit b__law_digit .nil pass0 (pa_cons (pv 0) (pa_cons (pe_op op_add (pv 1) pe_int) pa_nil))) pa_nil)) (pg_name (i := 3) sc__law_edits.nd rfl (by first | exact Or.inl rfl | exact Or.inr rfl)) (pss_one (ps_expr (pe_bm PySem.F.plainAttrs_list PySem.F.slot_list_append PySem.F.type_list_append mt_append (pv 2) (pa_cons (pe_call G__law_edit hr4 rfl g__law_edit k__law_edit b__law_edit .nil pass0 (pa_cons (pv 0) (pa_cons (pv 2) pa_nil))) pa_nil)))))
      (pss_one (ps_ret (pv 2))))), ?_⟩
    unfold l_edits at P
    have st := Stp.refl (W := [p_state]) w
    refine h_set ?_
    refine h_lst ?_
    refine h_nil ?_
    refine h_newM w (ds := (([] : List (Tp3 (Tp2 Int Int) (Option (Tp2 Int Int)) (Tp2 Int Int)))).map enc) (K := K) .nil (fun p1 H2 hn5 s3 m4 => ?_) (by show 0 ≤ sizeLine; decide)
    have n6 := st.nn hn5
    have ne7 := Mu.ne m_state hn5
    replace m_state := m_state.step s3 nm0
    replace st := st.go s3 go0
    replace w := s3.ok
    refine h_seq ?_
    refine h_rng1 ?_
    refine h_cons ?_
    refine h_call ?_
    refine h_cons ?_
    refine h_var rfl ?_
    refine h_cons ?_
    refine h_op ?_
    refine h_var rfl ?_
    refine h_c ?_
    refine h_I0 ?_
    refine h_nil ?_
    refine ⟨B0, p_state, a_state, (a_few + 1), w, rfl, m_state, (P.bind).mono (fun x8 P => ?_) (fun _ z => z)⟩
    refine fun v12 B9 H10 s11 m_state r13 => ?_
    replace m4 := m4.step s11 (nm1 ne7.symm)
    replace st := st.go s11 (go1 (.inl (by simp)))
    replace w := s11.ok
    cases r13
    refine h_nil ?_
    obtain ⟨gz14, P⟩ := P.guard
    have wj16 := w
    have sj15 := Stp.refl (W := [p1, p_state]) w
    refine h_forR1 P gz14 (fun (a : (List (Tp3 (Tp2 Int Int) (Option (Tp2 Int Int)) (Tp2 Int Int))) × (List Int)) σ' H' => ∃ (B' : Hp) (o__law_k : Option V), Stp [p1, p_state] B9 H10 B' H' ∧ σ' = [some ((.ref p_state)), some (.int a_few), some ((.ref p1)), o__law_k] ∧ Mu K B' H' p1 (a.1.map enc) ∧ Mu K B' H' p_state (a.2.map enc)) ⟨_, _, sj15, rfl, m4, m_state⟩ ?_ ?_
    · rintro N17 T18 x23 a22 _ H27 ⟨B26, o29, s28, rfl, m4, m_state⟩ hlox23 hhix23 kk19 kr20 kb21 P
      replace st := st.go s28 (go2 (.inr n6) (.inl (by simp)))
      replace w := s28.ok
      have sj15 := s28
      refine h_gname ?_
      refine h_drop ?_
      refine h_bm ?_
      refine h_var rfl ?_
      refine h_bmL m4 ?_
      refine h_cons ?_
      refine h_call ?_
      refine h_cons ?_
      refine h_var rfl ?_
      refine h_cons ?_
      refine h_var rfl ?_
      refine h_nil ?_
      refine ⟨B26, p_state, a22.2, (.ref p1), a22.1, w, rfl, m_state, (m4.bor (nm1 ne7.symm)), (P.bind).mono (fun x30 P => ?_) (fun _ z => z)⟩
      refine fun v34 B31 H32 s33 m_state r35 => ?_
      replace m4 := m4.step s33 (nm1 ne7.symm)
      replace st := st.go s33 (go1 (.inl (by simp)))
      replace sj15 := sj15.go s33 (go1 (.inl (by simp)))
      replace w := s33.ok
      refine h_nil ?_
      obtain ⟨gd, P⟩ := P.guard
      refine h_append (b := x30.1) w m4 r35 gd (fun H36 s37 m4 => ?_)
      replace m_state := m_state.step s37 (nm1 ne7)
      replace st := st.go s37 (go1 (.inr n6))
      replace sj15 := sj15.go s37 (go1 (.inl (by simp)))
      replace w := s37.ok
      refine h_nx ?_
      exact kk19 ((a22.1 ++ [x30.1]), x30.2) _ _ ⟨_, _, sj15, rfl, m4, m_state⟩ P.ok
    · rintro a38 _ H40 ⟨B39, o42, s41, rfl, m4, m_state⟩ P
      replace st := st.go s41 (go2 (.inr n6) (.inl (by simp)))
      replace w := s41.ok
      refine h_nx ?_
      refine h_ret ?_
      refine h_var rfl ?_
      obtain ⟨B47, e43, k44, g45, r46⟩ := Mu.keep m4
      replace st := g45 _ _ _ st w0 n6
      replace m_state := m_state.kp e43 k44 ne7
      replace w := st.ok
      replace r46 : Rep K B47 (.ref p1) (enc a38.1) := r46
      exact P.ok _ _ _ st m_state r46
theorem ok__law_led {f : Addr} {fd : FuncData}  (F : Fun K "_law_led" "_law_led" s__law_led f fd) {f__law_less : Addr} {d__law_less : FuncData} (g__law_less : mg "_law_less" = some (.ref f__law_less)) (k__law_less : PySem.W.keepIn K (.ref f__law_less) = true) (b__law_less : L2.Binds K d__law_less ["_law_left", "_law_right_here"] []) (G__law_less : FnOk Pr wo K mg base CX0 1 f__law_less d__law_less ["_law_left", "_law_right_here"] (sp__law_less K)) {f__law_minus : Addr} {d__law_minus : FuncData} (g__law_minus : mg "_law_minus" = some (.ref f__law_minus)) (k__law_minus : PySem.W.keepIn K (.ref f__law_minus) = true) (b__law_minus : L2.Binds K d__law_minus ["_law_left", "_law_right_here"] []) (G__law_minus : FnOk Pr wo K mg base CX0 3 f__law_minus d__law_minus ["_law_left", "_law_right_here"] (sp__law_minus K)) {f__law_plus : Addr} {d__law_plus : FuncData} (g__law_plus : mg "_law_plus" = some (.ref f__law_plus)) (k__law_plus : PySem.W.keepIn K (.ref f__law_plus) = true) (b__law_plus : L2.Binds K d__law_plus ["_law_left", "_law_right_here"] []) (G__law_plus : FnOk Pr wo K mg base CX0 3 f__law_plus d__law_plus ["_law_left", "_law_right_here"] (sp__law_plus K)) {f__law_times : Addr} {d__law_times : FuncData} (g__law_times : mg "_law_times" = some (.ref f__law_times)) (k__law_times : PySem.W.keepIn K (.ref f__law_times) = true) (b__law_times : L2.Binds K d__law_times ["_law_left", "_law_right_here"] []) (G__law_times : FnOk Pr wo K mg base CX0 3 f__law_times d__law_times ["_law_left", "_law_right_here"] (sp__law_times K)) : FnOk Pr wo K mg base CX0 4 f fd ["_law_edits_here", "_law_t"] (sp__law_led K) := by
  refine F.ok sc__law_led (fun vs H Q E h => ?_) (fun cdv A outer s H0 vs Q E hr h => ?_)
  · obtain ⟨_, _, _, _, _, _, rfl, _⟩ := h; rfl
  · obtain ⟨B0, v_edits_here, a_edits_here, v_t, a_t, w, rfl, r_edits_here, r_t, P⟩ := h
    have w0 := w
    have hu := hu_of hr
    have hu64 := hu64_of hr
    have hr1 : Room 1 _ := hr.mono (by decide)
    have hr3 : Room 3 _ := hr.mono (by decide)
    refine ⟨_, (pss_cons (ps_for PassesOwn.never rfl (pi_list (pv 0)) (pg_tupK (K := K) (n := 3) rfl rfl (pgs_cons (pg_name (i := 2) sc__law_led.nd rfl (by first | exact Or.inl rfl | exact Or.inr rfl)) (pgs_cons (pg_name (i := 3) sc__law_led.nd rfl (by first | exact Or.inl rfl | exact Or.inr rfl)) (pgs_cons (pg_name (i := 4) sc__law_led.nd rfl (by first | exact Or.inl rfl | exact Or.inr rfl)) pgs_nil)))) (pss_cons (ps_if (pt_val (pe_call G__law_less hr1 rfl g__law_less k__law_less b__law_less .nil pass0 (pa_cons (pv 1) (pa_cons (pv 2) pa_nil)))) (pss_cons (ps_if (pt_cmpR op_isNn (pv 3) pe_non (nomark _)) (pss_one (ps_ret pe_non)) pss_nil)
      (pss_one (ps_ret (pe_call G__law_plus hr3 rfl g__law_plus k__law_plus b__law_plus .nil pass0 (pa_cons (pv 3) (pa_cons (pe_call G__law_times hr3 rfl g__law_times k__law_times b__law_times .nil pass0 (pa_cons (pv 4) (pa_cons (pv 1) pa_nil))) pa_nil)))))) pss_nil)
      (pss_one (ps_set (i := 1) sc__law_led.nd rfl (by first | exact Or.inl rfl | exact Or.inr rfl) (pe_call G__law_minus hr3 rfl g__law_minus k__law_minus b__law_minus .nil pass0 (pa_cons (pv 1) (pa_cons (pv 2) pa_nil)))))))
      (pss_one (ps_ret pe_non))), ?_⟩
    unfold l_led at P
    have st := Stp.refl (W := []) w
    refine h_seq ?_
    refine h_forE ?_
    refine h_var rfl ?_
    obtain ⟨p1, xs2, rfl, hr4, hb3⟩ := Bor.sq0 r_edits_here
    have wj6 := w
    have sj5 := Stp.refl (W := []) w
    refine h_forL P (hb3 _ _ st) (hr4.mono st.ex) (fun (a : (Tp2 Int Int)) σ' H' => ∃ (B' : Hp) (v0 : V) (o__law_span : Option V) (o__law_start : Option V) (o__law_rate : Option V), Stp [] B0 H0 B' H' ∧ σ' = [some ((.ref p1)), some v0, o__law_span, o__law_start, o__law_rate] ∧ Rep K B' v0 (enc a)) ⟨_, v_t, _, _, _, sj5, rfl, (r_t.mono st.ex)⟩ (fun _ _ _ j => ?_) ?_ ?_
    · obtain ⟨B16, v19, o21, o22, o23, s18, rfl, r20⟩ := j
      exact hb3 _ _ (st.go s18 go0)
    · rintro N7 T8 x13 v14 a12 _ H17 ⟨B16, v19, o21, o22, o23, s18, rfl, r20⟩ r15 kk9 kr10 kb11 P
      replace st := st.go s18 go0
      replace w := s18.ok
      have sj5 := s18
      replace r15 := r15.mono sj5.ex
      obtain ⟨p24, xs25, rfl, hs26, hr27⟩ := Rep.st w r15
      obtain ⟨u28, u30, u32, rfl, r29, r31, r33⟩ := RepL.open3 hr27
      refine h_tupG hs26 rfl ?_
      refine h_gcons ?_
      refine h_gname ?_
      refine h_gcons ?_
      refine h_gname ?_
      refine h_gcons ?_
      refine h_gname ?_
      refine h_gnil ?_
      refine h_seq <| h_if ?_
      refine h_tB ?_
      refine h_call ?_
      refine h_cons ?_
      refine h_var rfl ?_
      refine h_cons ?_
      refine h_var rfl ?_
      refine h_nil ?_
      refine ⟨B16, v19, a12, u28, x13.a, w, rfl, r20, r29, (P.bind).mono (fun x34 P => ?_) (fun _ z => z)⟩
      refine fun v38 B35 H36 s37 r39 => ?_
      replace r20 := r20.mono s37.ex
      replace r29 := r29.mono s37.ex
      replace r31 := r31.mono s37.ex
      replace r33 := r33.mono s37.ex
      replace st := st.go s37 go0
      replace sj5 := sj5.go s37 go0
      replace w := s37.ok
      cases r39
      refine h_bl ?_
      refine h_ite (fun c1 => ?_) (fun c1 => ?_)
      · replace P := P.iteT c1
        refine h_seq <| h_if ?_
        refine h_test ?_
        refine h_op ?_
        refine h_var rfl ?_
        refine h_c ?_
        refine h_isN r31 ?_
        refine h_bl ?_
        refine h_ite (fun c1 => ?_) (fun c1 => ?_)
        · replace P := P.iteT c1
          refine h_ret ?_
          refine h_c ?_
          exact (kr10 _ P.ok) _ _ _ st Rep.non
        · replace P := P.iteF c1
          refine h_next ?_
          refine h_nx ?_
          refine h_ret ?_
          refine h_call ?_
          refine h_cons ?_
          refine h_var rfl ?_
          refine h_cons ?_
          refine h_call ?_
          refine h_cons ?_
          refine h_var rfl ?_
          refine h_cons ?_
          refine h_var rfl ?_
          refine h_nil ?_
          refine ⟨B35, u32, x13.c, v19, a12, w, rfl, r33, r20, (P.bind).mono (fun x40 P => ?_) (fun _ z => z)⟩
          refine fun v44 B41 H42 s43 r45 => ?_
          replace r20 := r20.mono s43.ex
          replace r29 := r29.mono s43.ex
          replace r31 := r31.mono s43.ex
          replace r33 := r33.mono s43.ex
          replace st := st.go s43 go0
          replace sj5 := sj5.go s43 go0
          replace w := s43.ok
          refine h_nil ?_
          obtain ⟨x46, hx47, P⟩ := P.some
          have rc48 := r31
          rw [hx47] at rc48
          replace rc48 : Rep K B41 u30 (enc x46) := rc48
          refine ⟨B41, u30, x46, v44, x40, w, rfl, rc48, r45, (P.bind).mono (fun x49 P => ?_) (fun _ z => z)⟩
          refine fun v53 B50 H51 s52 r54 => ?_
          replace r20 := r20.mono s52.ex
          replace r29 := r29.mono s52.ex
          replace r31 := r31.mono s52.ex
          replace r33 := r33.mono s52.ex
          replace r45 := r45.mono s52.ex
          replace st := st.go s52 go0
          replace sj5 := sj5.go s52 go0
          replace w := s52.ok
          exact (kr10 _ P.ok) _ _ _ st r54
      · replace P := P.iteF c1
        refine h_next ?_
        refine h_nx ?_
        refine h_set1 ?_
        refine h_call ?_
        refine h_cons ?_
        refine h_var rfl ?_
        refine h_cons ?_
        refine h_var rfl ?_
        refine h_nil ?_
        refine ⟨B35, v19, a12, u28, x13.a, w, rfl, r20, r29, (P.bind).mono (fun x55 P => ?_) (fun _ z => z)⟩
        refine fun v59 B56 H57 s58 r60 => ?_
        replace r20 := r20.mono s58.ex
        replace r29 := r29.mono s58.ex
        replace r31 := r31.mono s58.ex
        replace r33 := r33.mono s58.ex
        replace st := st.go s58 go0
        replace sj5 := sj5.go s58 go0
        replace w := s58.ok
        refine h_nx ?_
        exact kk9 x55 _ _ ⟨_, v59, _, _, _, sj5, rfl, r60⟩ P.ok
    · rintro a61 _ H63 ⟨B62, v65, o67, o68, o69, s64, rfl, r66⟩ P
      replace st := st.go s64 go0
      replace w := s64.ok
      refine h_nx ?_
      refine h_ret ?_
      refine h_c ?_
      exact P.ok _ _ _ st Rep.non
theorem ok__law_changed {f : Addr} {fd : FuncData}  (F : Fun K "_law_changed" "_law_changed" s__law_changed f fd) {f__law_digit : Addr} {d__law_digit : FuncData} (g__law_digit : mg "_law_digit" = some (.ref f__law_digit)) (k__law_digit : PySem.W.keepIn K (.ref f__law_digit) = true) (b__law_digit : L2.Binds K d__law_digit ["_law_state", "_law_base"] []) (G__law_digit : FnOk Pr wo K mg base CX0 1 f__law_digit d__law_digit ["_law_state", "_law_base"] (sp__law_digit K)) {f__law_lowest : Addr} {d__law_lowest : FuncData} (g__law_lowest : mg "_law_lowest" = some (.ref f__law_lowest)) (k__law_lowest : PySem.W.keepIn K (.ref f__law_lowest) = true) (b__law_lowest : L2.Binds K d__law_lowest ["_law_top", "_law_bottom"] []) (G__law_lowest : FnOk Pr wo K mg base CX0 2 f__law_lowest d__law_lowest ["_law_top", "_law_bottom"] (sp__law_lowest K)) {f__law_times : Addr} {d__law_times : FuncData} (g__law_times : mg "_law_times" = some (.ref f__law_times)) (k__law_times : PySem.W.keepIn K (.ref f__law_times) = true) (b__law_times : L2.Binds K d__law_times ["_law_left", "_law_right_here"] []) (G__law_times : FnOk Pr wo K mg base CX0 3 f__law_times d__law_times ["_law_left", "_law_right_here"] (sp__law_times K)) {f__law_edits : Addr} {d__law_edits : FuncData} (g__law_edits : mg "_law_edits" = some (.ref f__law_edits)) (k__law_edits : PySem.W.keepIn K (.ref f__law_edits) = true) (b__law_edits : L2.Binds K d__law_edits ["_law_state", "_law_few"] []) (G__law_edits : FnOk Pr wo K mg base CX0 5 f__law_edits d__law_edits ["_law_state", "_law_few"] (sp__law_edits K)) {f__law_plus : Addr} {d__law_plus : FuncData} (g__law_plus : mg "_law_plus" = some (.ref f__law_plus)) (k__law_plus : PySem.W.keepIn K (.ref f__law_plus) = true) (b__law_plus : L2.Binds K d__law_plus ["_law_left", "_law_right_here"] []) (G__law_plus : FnOk Pr wo K mg base CX0 3 f__law_plus d__law_plus ["_law_left", "_law_right_here"] (sp__law_plus K)) {f__law_edit : Addr} {d__law_edit : FuncData} (g__law_edit : mg "_law_edit" = some (.ref f__law_edit)) (k__law_edit : PySem.W.keepIn K (.ref f__law_edit) = true) (b__law_edit : L2.Binds K d__law_edit ["_law_state", "_law_ahead"] []) (G__law_edit : FnOk Pr wo K mg base CX0 4 f__law_edit d__law_edit ["_law_state", "_law_ahead"] (sp__law_edit K)) (bI_max : mg "max" = none) (bI_len : mg "len" = none) : FnOk Pr wo K mg base CX0 6 f fd ["_law_state", "_law_edits_here"] (sp__law_changed K) := by
  refine F.ok sc__law_changed (fun vs H Q E h => ?_) (fun cdv A outer s H0 vs Q E hr h => ?_)
  · obtain ⟨_, _, _, _, _, _, rfl, _⟩ := h; rfl
  · obtain ⟨B0, p_state, a_state, v_edits_here, a_edits_here, w, rfl, m_state, r_edits_here, P⟩ := h
    have w0 := w
    have hu := hu_of hr
    have hu64 := hu64_of hr
    have hr1 : Room 1 _ := hr.mono (by decide)
    have hr2 : Room 2 _ := hr.mono (by decide)
    have hr3 : Room 3 _ := hr.mono (by decide)
    have hr4 : Room 4 _ := hr.mono (by decide)
    have hr5 : Room 5 _ := hr.mono (by decide)
    refine ⟨_, (pss_cons (ps_set (i := 2) sc__law_changed.nd rfl (by first | exact Or.inl rfl | exact Or.inr rfl) (pe_call G__law_digit hr1 rfl g__law_digit k__law_digit b__law_digit .nil pass0 (pa_cons (pv 0) (pa_cons pe_int pa_nil))))
      (pss_cons (ps_set (i := 3) sc__law_changed.nd rfl (by first | exact Or.inl rfl | exact Or.inr rfl) (pe_call G__law_digit hr1 rfl g__law_digit k__law_digit b__law_digit .nil pass0 (pa_cons (pv 0) (pa_cons (pe_callB (r := rMaxY) (cr_max rfl) (by rfl) bI_max PyProof.Rows.boot_max (pa_cons pe_int (pa_cons (pe_callB (r := rLenY K) cr_len (by rfl) bI_len PySem.boot_len (pa_cons (pv 1) pa_nil)) pa_nil))) pa_nil))))
      (pss_cons (ps_set (i := 4) sc__law_changed.nd rfl (by first | exact Or.inl rfl | exact Or.inr rfl) (pe_call G__law_lowest hr2 rfl g__law_lowest k__law_lowest b__law_lowest .nil pass0 (pa_cons pe_int (pa_cons (pe_op op_add pe_int (pe_call G__law_digit hr1 rfl g__law_digit k__law_digit b__law_digit .nil pass0 (pa_cons (pv 0) (pa_cons pe_int pa_nil)))) pa_nil))))
      (pss_cons (ps_if (PW.pt (pw_or (pt_cmpR op_eq (pv 2) pe_int (nomark _)) (pw_or1 (pt_cmpR (r := rEqD K) (op_eqD hu64) (pv 1) (pe_lst pa_nil) (nomark _))))) (pss_one (ps_ret (pe_call G__law_edits hr5 rfl g__law_edits k__law_edits b__law_edits .nil pass0 (pa_cons (pv 0) (pa_cons pe_int pa_nil))))) pss_nil)
      (pss_cons (ps_asg (pe_ix (r := rIxL K) ix_list (pv 1) (pv 3) (fun _ _ => rfl)) (pg_tupK (K := K) (n := 3) rfl rfl (pgs_cons (pg_name (i := 5) sc__law_changed.nd rfl (by first | exact Or.inl rfl | exact Or.inr rfl)) (pgs_cons (pg_name (i := 6) sc__law_changed.nd rfl (by first | exact Or.inl rfl | exact Or.inr rfl)) (pgs_cons (pg_name (i := 7) sc__law_changed.nd rfl (by first | exact Or.inl rfl | exact Or.inr rfl)) pgs_nil)))))
      (pss_cons (ps_par rfl sc__law_changed.nd (i := 8) (j := 9) rfl rfl (by decide) rfl rfl (pa_cons (pe_slice (r := rSlQ K) sl_Q (pv 1) po_none (po_some (pv 3))) (pa_cons (pe_slice (r := rSlQ K) sl_Q (pv 1) (po_some (pe_op op_add (pv 3) pe_int)) po_none) pa_nil)) rfl)
      (pss_cons (ps_set (i := 10) sc__law_changed.nd rfl (by first | exact Or.inl rfl | exact Or.inr rfl) (pe_lst (pa_cons (pv 1) (pa_cons (pe_op (r := rCatQ K) op_catQ (pe_op (r := rCatQ K) op_catQ (pv 8) (pe_lst (pa_cons (pe_tup (pa_cons (pe_call G__law_plus hr3 rfl g__law_plus k__law_plus b__law_plus .nil pass0 (pa_cons (pv 5) (pa_cons (pv 4) pa_nil))) (pa_cons (pv 6) (pa_cons (pv 7) pa_nil)))) pa_nil))) (pv 9)) (pa_cons (pe_op (r := rCatQ K) op_catQ (pv 8) (pv 9)) pa_nil)))))
      (pss_cons (ps_set (i := 10) sc__law_changed.nd rfl (by first | exact Or.inl rfl | exact Or.inr rfl) (pe_op (r := rCatQ K) op_catQ (pv 10) (pe_lst (pa_cons (pe_op (r := rCatQ K) op_catQ (pe_op (r := rCatQ K) op_catQ (pv 8) (pe_lst (pa_cons (pe_call G__law_edit hr4 rfl g__law_edit k__law_edit b__law_edit .nil pass0 (pa_cons (pv 0) (pa_cons (pv 8) pa_nil))) pa_nil))) (pe_slice (r := rSlQ K) sl_Q (pv 1) (po_some (pv 3)) po_none)) (pa_cons (pe_op (r := rCatQ K) op_catQ (pv 1) (pe_lst (pa_cons (pe_tup (pa_cons (pv 4) (pa_cons pe_non (pa_cons (pe_tup (pa_cons pe_int (pa_cons pe_int pa_nil))) pa_nil)))) pa_nil))) pa_nil)))))
      (pss_cons (ps_set (i := 10) sc__law_changed.nd rfl (by first | exact Or.inl rfl | exact Or.inr rfl) (pe_op (r := rCatQ K) op_catQ (pv 10) (pe_lst (pa_cons (pe_op (r := rCatQ K) op_catQ (pe_op (r := rCatQ K) op_catQ (pe_op (r := rCatQ K) op_catQ (pe_slice (r := rSlQ K) sl_Q (pv 8) po_none (po_some (pe_un un_neg pe_int))) (pe_lst (pa_cons (pe_ix (r := rIxL K) ix_list (pv 1) (pv 3) (fun _ _ => rfl)) pa_nil))) (pe_slice (r := rSlQ K) sl_Q (pv 8) (po_some (pe_un un_neg pe_int)) po_none)) (pv 9)) (pa_cons (pv 1) pa_nil)))))
      (pss_cons (ps_set (i := 11) sc__law_changed.nd rfl (by first | exact Or.inl rfl | exact Or.inr rfl) (pe_call G__law_times hr3 rfl g__law_times k__law_times b__law_times .nil pass0 (pa_cons (pv 5) (pa_cons (pe_tup (pa_cons pe_int (pa_cons pe_int pa_nil))) pa_nil))))
      (pss_cons (ps_if (pt_cmpR op_isNn (pv 6) pe_non (nomark _)) (pss_cons (ps_set (i := 10) sc__law_changed.nd rfl (by first | exact Or.inl rfl | exact Or.inr rfl) (pe_op (r := rCatQ K) op_catQ (pv 10) (pe_lst (pa_cons (pe_op (r := rCatQ K) op_catQ (pe_op (r := rCatQ K) op_catQ (pv 8) (pe_lst (pa_cons (pe_tup (pa_cons (pv 11) (pa_cons pe_non (pa_cons (pv 7) pa_nil)))) (pa_cons (pe_tup (pa_cons (pv 11) (pa_cons pe_non (pa_cons (pv 7) pa_nil)))) pa_nil)))) (pv 9)) pa_nil))))
      (pss_one (ps_set (i := 10) sc__law_changed.nd rfl (by first | exact Or.inl rfl | exact Or.inr rfl) (pe_op (r := rCatQ K) op_catQ (pv 10) (pe_lst (pa_cons (pe_op (r := rCatQ K) op_catQ (pe_op (r := rCatQ K) op_catQ (pv 8) (pe_lst (pa_cons (pe_tup (pa_cons (pv 5) (pa_cons (pv 4) (pa_cons (pe_tup (pa_cons pe_int (pa_cons pe_int pa_nil))) pa_nil)))) pa_nil))) (pv 9)) pa_nil)))))) (pss_cons (ps_set (i := 12) sc__law_changed.nd rfl (by first | exact Or.inl rfl | exact Or.inr rfl) (pe_call G__law_plus hr3 rfl g__law_plus k__law_plus b__law_plus .nil pass0 (pa_cons (pv 6) (pa_cons (pe_call G__law_times hr3 rfl g__law_times k__law_times b__law_times .nil pass0 (pa_cons (pv 7) (pa_cons (pv 11) pa_nil))) pa_nil))))
      (pss_cons (ps_set (i := 10) sc__law_changed.nd rfl (by first | exact Or.inl rfl | exact Or.inr rfl) (pe_op (r := rCatQ K) op_catQ (pv 10) (pe_lst (pa_cons (pe_op (r := rCatQ K) op_catQ (pe_op (r := rCatQ K) op_catQ (pv 8) (pe_lst (pa_cons (pe_tup (pa_cons (pv 11) (pa_cons (pv 6) (pa_cons (pv 7) pa_nil)))) (pa_cons (pe_tup (pa_cons (pv 11) (pa_cons (pv 12) (pa_cons (pv 7) pa_nil)))) pa_nil)))) (pv 9)) pa_nil))))
      (pss_cons (ps_asg (pe_op (r := rCatQ K) op_catQ (pe_op (r := rCatQ K) op_catQ (pv 8) (pe_lst (pa_cons (pe_tup (pa_cons (pv 5) (pa_cons (pe_call G__law_plus hr3 rfl g__law_plus k__law_plus b__law_plus .nil pass0 (pa_cons (pv 6) (pa_cons (pv 4) pa_nil))) (pa_cons (pv 7) pa_nil)))) pa_nil))) (pv 9)) (pg_sub (pv 10) pe_int set_list))
      (pss_one (ps_set (i := 10) sc__law_changed.nd rfl (by first | exact Or.inl rfl | exact Or.inr rfl) (pe_op (r := rCatQ K) op_catQ (pv 10) (pe_lst (pa_cons (pe_op (r := rCatQ K) op_catQ (pe_op (r := rCatQ K) op_catQ (pv 8) (pe_lst (pa_cons (pe_tup (pa_cons (pv 5) (pa_cons (pv 6) (pa_cons (pe_call G__law_plus hr3 rfl g__law_plus k__law_plus b__law_plus .nil pass0 (pa_cons (pv 7) (pa_cons (pv 4) pa_nil))) pa_nil)))) pa_nil))) (pv 9)) pa_nil)))))))))
      (pss_one (ps_ret (pe_ix (r := rIxL K) ix_list (pv 10) (pv 2) (fun _ _ => rfl))))))))))))))), ?_⟩
    unfold l_changed at P
    have st := Stp.refl (W := [p_state]) w
    refine h_set ?_
    refine h_call ?_
    refine h_cons ?_
    refine h_var rfl ?_
    refine h_cons ?_
    refine h_c ?_
    refine h_nil ?_
    refine ⟨B0, p_state, a_state, 9, w, rfl, m_state, (P.bind).mono (fun x1 P => ?_) (fun _ z => z)⟩
    refine fun v5 B2 H3 s4 m_state r6 => ?_
    replace st := st.go s4 (go1 (.inl (by simp)))
    replace w := s4.ok
    cases r6
    try dsimp only
    refine h_nrm (σ' := [some ((.ref p_state)), some (v_edits_here), some (.int x1.1), none, none, none, none, none, none, none, none, none, none]) ?_
    refine h_set ?_
    refine h_call ?_
    refine h_cons ?_
    refine h_var rfl ?_
    refine h_cons ?_
    refine h_cb ?_
    refine h_cons ?_
    refine h_c ?_
    refine h_cons ?_
    refine h_cb ?_
    refine h_cons ?_
    refine h_var rfl ?_
    refine h_nil ?_
    obtain ⟨p7, xs8, rfl, hs9, hr10⟩ := Rep.sq w (r_edits_here.mono st.ex)
    refine h_len hs9 hr10 ?_
    refine h_nil ?_
    refine h_max ?_
    refine h_nil ?_
    refine ⟨B2, p_state, x1.2, (maxI 1 (a_edits_here.length : Int)), w, rfl, m_state, (P.bind).mono (fun x11 P => ?_) (fun _ z => z)⟩
    refine fun v15 B12 H13 s14 m_state r16 => ?_
    replace st := st.go s14 (go1 (.inl (by simp)))
    replace w := s14.ok
    cases r16
    try dsimp only
    refine h_nrm (σ' := [some ((.ref p_state)), some ((.ref p7)), some (.int x1.1), some (.int x11.1), none, none, none, none, none, none, none, none, none]) ?_
    refine h_set ?_
    refine h_call ?_
    refine h_cons ?_
    refine h_c ?_
    refine h_cons ?_
    refine h_op ?_
    refine h_c ?_
    refine h_call ?_
    refine h_cons ?_
    refine h_var rfl ?_
    refine h_cons ?_
    refine h_c ?_
    refine h_nil ?_
    refine ⟨B12, p_state, x11.2, 12, w, rfl, m_state, (P.bind).mono (fun x17 P => ?_) (fun _ z => z)⟩
    refine fun v21 B18 H19 s20 m_state r22 => ?_
    replace st := st.go s20 (go1 (.inl (by simp)))
    replace w := s20.ok
    cases r22
    refine h_I0 ?_
    refine h_nil ?_
    refine ⟨B18, 1, (1 + x17.1), w, rfl, (P.bind).mono (fun x23 P => ?_) (fun _ z => z)⟩
    refine fun v27 B24 H25 s26 r28 => ?_
    replace m_state := m_state.step s26 nm0
    replace st := st.go s26 go0
    replace w := s26.ok
    try dsimp only
    refine h_nrm (σ' := [some ((.ref p_state)), some ((.ref p7)), some (.int x1.1), some (.int x11.1), some (v27), none, none, none, none, none, none, none, none]) ?_
    refine h_seq <| h_if ?_
    have wj30 := w
    have sj29 := Stp.refl (W := []) w
    refine h_condJ P (fun H' => ∃ B', Stp [] B24 H25 B' H') (fun N kk31 P => ?_) ?_
    · skip
      refine h_tor ?_
      refine h_test ?_
      refine h_op ?_
      refine h_var rfl ?_
      refine h_c ?_
      refine h_eqI ?_
      refine h_bl ?_
      refine h_ite (fun c1 => ?_) (fun c1 => ?_)
      · replace P := P.iteT c1
        exact kk31 _ _ ⟨_, sj29⟩ P.ok
      · replace P := P.iteF c1
        refine h_test ?_
        refine h_op ?_
        refine h_var rfl ?_
        refine h_lst ?_
        refine h_nil ?_
        refine h_newL w (ds := (([] : List D)).map enc) (K := K) .nil (fun p32 B33 H34 s35 r36 => ?_) (by show 0 ≤ sizeLine; decide)
        replace m_state := m_state.step s35 nm0
        replace r28 := r28.mono s35.ex
        replace st := st.go s35 go0
        replace sj29 := sj29.go s35 go0
        replace w := s35.ok
        replace r36 : Rep K B33 (.ref p32) (enc ([] : List D)) := r36
        obtain ⟨gd, P⟩ := P.guard
        refine h_eqD (d := (enc a_edits_here)) (e := (enc ([] : List D))) w (r_edits_here.mono st.ex) r36 gd ?_
        refine h_bl ?_
        exact kk31 _ _ ⟨_, sj29⟩ P.ok
    rintro b37 H39 ⟨B38, s40⟩ P
    replace m_state := m_state.step s40 nm0
    replace r28 := r28.mono s40.ex
    replace st := st.go s40 go0
    replace w := s40.ok
    refine h_ite (fun c1 => ?_) (fun c1 => ?_)
    · replace P := P.iteT c1
      refine h_ret ?_
      refine h_call ?_
      refine h_cons ?_
      refine h_var rfl ?_
      refine h_cons ?_
      refine h_c ?_
      refine h_nil ?_
      refine ⟨B38, p_state, x17.2, 7, w, rfl, m_state, (P.bind).mono (fun x41 P => ?_) (fun _ z => z)⟩
      refine fun v45 B42 H43 s44 m_state r46 => ?_
      replace r28 := r28.mono s44.ex
      replace st := st.go s44 (go1 (.inl (by simp)))
      replace w := s44.ok
      exact P.ok _ _ _ st m_state r46
    · replace P := P.iteF c1
      refine h_next ?_
      refine h_nx ?_
      refine h_seq ?_
      refine h_asg ?_
      refine h_op ?_
      refine h_var rfl ?_
      refine h_var rfl ?_
      obtain ⟨p47, xs48, hv, hs49, hr50⟩ := Rep.sq w (r_edits_here.mono st.ex)
      cases hv
      obtain ⟨x51, hx52, P⟩ := P.ix
      obtain ⟨u53, hu, r54⟩ := RepL.atE hr50 hx52
      refine h_ixL hs49 hu ?_
      obtain ⟨p55, xs56, rfl, hs57, hr58⟩ := Rep.st w r54
      obtain ⟨u59, u61, u63, rfl, r60, r62, r64⟩ := RepL.open3 hr58
      refine h_tupG hs57 rfl ?_
      refine h_gcons ?_
      refine h_gname ?_
      refine h_gcons ?_
      refine h_gname ?_
      refine h_gcons ?_
      refine h_gname ?_
      refine h_gnil ?_
      refine h_nx ?_
      refine h_seq ?_
      refine h_par ?_
      refine h_cons ?_
      refine h_sl ?_
      refine h_var rfl ?_
      refine h_nopart ?_
      refine h_part ?_
      refine h_var rfl ?_
      refine h_isI ?_
      obtain ⟨p65, xs66, hv, hs67, hr68⟩ := Rep.sq w (r_edits_here.mono st.ex)
      cases hv
      refine h_slQ hs67 ?_
      refine h_nwL w (ds := ((cutL a_edits_here none (some x11.1))).map enc) (K := K) (hr68.cut none (some x11.1)) (fun p69 B70 H71 s72 r73 => ?_) 
      replace m_state := m_state.step s72 nm0
      replace r28 := r28.mono s72.ex
      replace r60 := r60.mono s72.ex
      replace r62 := r62.mono s72.ex
      replace r64 := r64.mono s72.ex
      replace st := st.go s72 go0
      replace w := s72.ok
      replace r73 : Rep K B70 (.ref p69) (enc (cutL a_edits_here none (some x11.1))) := r73
      replace P := P.lt
      generalize hx : ((cutL a_edits_here none (some x11.1)) : (List (Tp3 (Tp2 Int Int) (Option (Tp2 Int Int)) (Tp2 Int Int)))) = x74 at P r73 ⊢
      refine h_cons ?_
      refine h_sl ?_
      refine h_var rfl ?_
      refine h_part ?_
      refine h_op ?_
      refine h_var rfl ?_
      refine h_c ?_
      refine h_I0 ?_
      refine h_isI ?_
      refine h_nopart ?_
      obtain ⟨p75, xs76, hv, hs77, hr78⟩ := Rep.sq w (r_edits_here.mono st.ex)
      cases hv
      refine h_slQ hs77 ?_
      refine h_nwL w (ds := ((cutL a_edits_here (some (x11.1 + 1)) none)).map enc) (K := K) (hr78.cut (some (x11.1 + 1)) none) (fun p79 B80 H81 s82 r83 => ?_) 
      replace m_state := m_state.step s82 nm0
      replace r28 := r28.mono s82.ex
      replace r60 := r60.mono s82.ex
      replace r62 := r62.mono s82.ex
      replace r64 := r64.mono s82.ex
      replace r73 := r73.mono s82.ex
      replace st := st.go s82 go0
      replace w := s82.ok
      replace r83 : Rep K B80 (.ref p79) (enc (cutL a_edits_here (some (x11.1 + 1)) none)) := r83
      replace P := P.lt
      generalize hx : ((cutL a_edits_here (some (x11.1 + 1)) none) : (List (Tp3 (Tp2 Int Int) (Option (Tp2 Int Int)) (Tp2 Int Int)))) = x84 at P r83 ⊢
      refine h_nil ?_
      refine h_two ?_
      refine h_nx ?_
      refine h_set ?_
      refine h_lst ?_
      refine h_cons ?_
      refine h_var rfl ?_
      refine h_cons ?_
      refine h_op ?_
      refine h_op ?_
      refine h_var rfl ?_
      refine h_lst ?_
      refine h_cons ?_
      refine h_tup ?_
      refine h_cons ?_
      refine h_call ?_
      refine h_cons ?_
      refine h_var rfl ?_
      refine h_cons ?_
      refine h_var rfl ?_
      refine h_nil ?_
      refine ⟨B80, u59, x51.a, v27, x23, w, rfl, r60, r28, (P.bind).mono (fun x85 P => ?_) (fun _ z => z)⟩
      refine fun v89 B86 H87 s88 r90 => ?_
      replace m_state := m_state.step s88 nm0
      replace r28 := r28.mono s88.ex
      replace r60 := r60.mono s88.ex
      replace r62 := r62.mono s88.ex
      replace r64 := r64.mono s88.ex
      replace r73 := r73.mono s88.ex
      replace r83 := r83.mono s88.ex
      replace st := st.go s88 go0
      replace w := s88.ok
      refine h_cons ?_
      refine h_var rfl ?_
      refine h_cons ?_
      refine h_var rfl ?_
      refine h_nil ?_
      refine h_newT w (K := K) (.cons r90 (.cons r62 (.cons r64 .nil))) (fun p91 B92 H93 s94 r95 => ?_) (by show 3 ≤ sizeLine; decide)
      replace m_state := m_state.step s94 nm0
      replace r28 := r28.mono s94.ex
      replace r60 := r60.mono s94.ex
      replace r62 := r62.mono s94.ex
      replace r64 := r64.mono s94.ex
      replace r73 := r73.mono s94.ex
      replace r83 := r83.mono s94.ex
      replace st := st.go s94 go0
      replace w := s94.ok
      replace r95 : Rep K B92 (.ref p91) (enc (⟨x85, x51.b, x51.c⟩ : (Tp3 (Tp2 Int Int) (Option (Tp2 Int Int)) (Tp2 Int Int)))) := r95
      refine h_nil ?_
      refine h_newL w (ds := (([(⟨x85, x51.b, x51.c⟩ : (Tp3 (Tp2 Int Int) (Option (Tp2 Int Int)) (Tp2 Int Int)))] : List (Tp3 (Tp2 Int Int) (Option (Tp2 Int Int)) (Tp2 Int Int)))).map enc) (K := K) (.cons r95 .nil) (fun p96 B97 H98 s99 r100 => ?_) (by show 1 ≤ sizeLine; decide)
      replace m_state := m_state.step s99 nm0
      replace r28 := r28.mono s99.ex
      replace r60 := r60.mono s99.ex
      replace r62 := r62.mono s99.ex
      replace r64 := r64.mono s99.ex
      replace r73 := r73.mono s99.ex
      replace r83 := r83.mono s99.ex
      replace st := st.go s99 go0
      replace w := s99.ok
      replace r100 : Rep K B97 (.ref p96) (enc ([(⟨x85, x51.b, x51.c⟩ : (Tp3 (Tp2 Int Int) (Option (Tp2 Int Int)) (Tp2 Int Int)))] : List (Tp3 (Tp2 Int Int) (Option (Tp2 Int Int)) (Tp2 Int Int)))) := r100
      replace P := P.lt
      generalize hx : (([(⟨x85, x51.b, x51.c⟩ : (Tp3 (Tp2 Int Int) (Option (Tp2 Int Int)) (Tp2 Int Int)))] : List (Tp3 (Tp2 Int Int) (Option (Tp2 Int Int)) (Tp2 Int Int))) : (List (Tp3 (Tp2 Int Int) (Option (Tp2 Int Int)) (Tp2 Int Int)))) = x101 at P r100 ⊢
      obtain ⟨p102, xs103, hv, hs104, hr105⟩ := Rep.sq w r73
      cases hv
      obtain ⟨p106, xs107, hv, hs108, hr109⟩ := Rep.sq w r100
      cases hv
      obtain ⟨gd, P⟩ := P.guard
      refine h_cat hs104 hs108 (by have g := gd; simp only [hr105.length, hr109.length, List.length_map] at g ⊢; exact Nat.le_trans g (by decide)) ?_
      refine h_nwL w (ds := ((x74 ++ x101)).map enc) (K := K) (RepL.cat hr105 hr109) (fun p110 B111 H112 s113 r114 => ?_) 
      replace m_state := m_state.step s113 nm0
      replace r28 := r28.mono s113.ex
      replace r60 := r60.mono s113.ex
      replace r62 := r62.mono s113.ex
      replace r64 := r64.mono s113.ex
      replace r73 := r73.mono s113.ex
      replace r83 := r83.mono s113.ex
      replace st := st.go s113 go0
      replace w := s113.ok
      replace r114 : Rep K B111 (.ref p110) (enc (x74 ++ x101)) := r114
      refine h_var rfl ?_
      obtain ⟨p115, xs116, hv, hs117, hr118⟩ := Rep.sq w r114
      cases hv
      obtain ⟨p119, xs120, hv, hs121, hr122⟩ := Rep.sq w r83
      cases hv
      obtain ⟨gd, P⟩ := P.guard
      refine h_cat hs117 hs121 (by have g := gd; simp only [hr118.length, hr122.length, List.length_map] at g ⊢; exact Nat.le_trans g (by decide)) ?_
      refine h_nwL w (ds := (((x74 ++ x101) ++ x84)).map enc) (K := K) (RepL.cat hr118 hr122) (fun p123 B124 H125 s126 r127 => ?_) 
      replace m_state := m_state.step s126 nm0
      replace r28 := r28.mono s126.ex
      replace r60 := r60.mono s126.ex
      replace r62 := r62.mono s126.ex
      replace r64 := r64.mono s126.ex
      replace r73 := r73.mono s126.ex
      replace r83 := r83.mono s126.ex
      replace st := st.go s126 go0
      replace w := s126.ok
      replace r127 : Rep K B124 (.ref p123) (enc ((x74 ++ x101) ++ x84)) := r127
      replace P := P.lt
      generalize hx : (((x74 ++ x101) ++ x84) : (List (Tp3 (Tp2 Int Int) (Option (Tp2 Int Int)) (Tp2 Int Int)))) = x128 at P r127 ⊢
      refine h_cons ?_
      refine h_op ?_
      refine h_var rfl ?_
      refine h_var rfl ?_
      obtain ⟨p129, xs130, hv, hs131, hr132⟩ := Rep.sq w r73
      cases hv
      obtain ⟨p133, xs134, hv, hs135, hr136⟩ := Rep.sq w r83
      cases hv
      obtain ⟨gd, P⟩ := P.guard
      refine h_cat hs131 hs135 (by have g := gd; simp only [hr132.length, hr136.length, List.length_map] at g ⊢; exact Nat.le_trans g (by decide)) ?_
      refine h_nwL w (ds := ((x74 ++ x84)).map enc) (K := K) (RepL.cat hr132 hr136) (fun p137 B138 H139 s140 r141 => ?_) 
      replace m_state := m_state.step s140 nm0
      replace r28 := r28.mono s140.ex
      replace r60 := r60.mono s140.ex
      replace r62 := r62.mono s140.ex
      replace r64 := r64.mono s140.ex
      replace r73 := r73.mono s140.ex
      replace r83 := r83.mono s140.ex
      replace r127 := r127.mono s140.ex
      replace st := st.go s140 go0
      replace w := s140.ok
      replace r141 : Rep K B138 (.ref p137) (enc (x74 ++ x84)) := r141
      refine h_nil ?_
      refine h_newM w (ds := (([a_edits_here, x128, (x74 ++ x84)] : List (List (Tp3 (Tp2 Int Int) (Option (Tp2 Int Int)) (Tp2 Int Int))))).map enc) (K := K) (.cons (r_edits_here.mono st.ex) (.cons r127 (.cons r141 .nil))) (fun p142 H143 hn146 s144 m145 => ?_) (by show 3 ≤ sizeLine; decide)
      have n147 := st.nn hn146
      have ne148 := Mu.ne m_state hn146
      replace m_state := m_state.step s144 nm0
      replace r28 := r28.mono s144.ex
      replace r60 := r60.mono s144.ex
      replace r62 := r62.mono s144.ex
      replace r64 := r64.mono s144.ex
      replace r73 := r73.mono s144.ex
      replace r83 := r83.mono s144.ex
      replace st := st.go s144 go0
      replace w := s144.ok
      replace P := P.lt
      generalize hx : (([a_edits_here, x128, (x74 ++ x84)] : List (List (Tp3 (Tp2 Int Int) (Option (Tp2 Int Int)) (Tp2 Int Int)))) : (List (List (Tp3 (Tp2 Int Int) (Option (Tp2 Int Int)) (Tp2 Int Int))))) = x149 at P m145 ⊢
      try dsimp only
      refine h_nrm (σ' := [some ((.ref p_state)), some ((.ref p7)), some (.int x1.1), some (.int x11.1), some (v27), some (u59), some (u61), some (u63), some ((.ref p69)), some ((.ref p79)), some ((.ref p142)), none, none]) ?_
      refine h_set ?_
      refine h_op ?_
      refine h_var rfl ?_
      refine h_lst ?_
      refine h_cons ?_
      refine h_op ?_
      refine h_op ?_
      refine h_var rfl ?_
      refine h_lst ?_
      refine h_cons ?_
      refine h_call ?_
      refine h_cons ?_
      refine h_var rfl ?_
      refine h_cons ?_
      refine h_var rfl ?_
      refine h_nil ?_
      refine ⟨B138, p_state, x17.2, (.ref p69), x74, w, rfl, m_state, (Rep.bor w r73 (fun x z => by rw [List.mem_singleton.mp z]; exact m_state.1)), (P.bind).mono (fun x150 P => ?_) (fun _ z => z)⟩
      refine fun v154 B151 H152 s153 m_state r155 => ?_
      replace r28 := r28.mono s153.ex
      replace r60 := r60.mono s153.ex
      replace r62 := r62.mono s153.ex
      replace r64 := r64.mono s153.ex
      replace r73 := r73.mono s153.ex
      replace r83 := r83.mono s153.ex
      replace m145 := m145.step s153 (nm1 ne148.symm)
      replace st := st.go s153 (go1 (.inl (by simp)))
      replace w := s153.ok
      refine h_nil ?_
      refine h_newL w (ds := (([x150.1] : List (Tp3 (Tp2 Int Int) (Option (Tp2 Int Int)) (Tp2 Int Int)))).map enc) (K := K) (.cons r155 .nil) (fun p156 B157 H158 s159 r160 => ?_) (by show 1 ≤ sizeLine; decide)
      replace m_state := m_state.step s159 nm0
      replace r28 := r28.mono s159.ex
      replace r60 := r60.mono s159.ex
      replace r62 := r62.mono s159.ex
      replace r64 := r64.mono s159.ex
      replace r73 := r73.mono s159.ex
      replace r83 := r83.mono s159.ex
      replace m145 := m145.step s159 nm0
      replace st := st.go s159 go0
      replace w := s159.ok
      replace r160 : Rep K B157 (.ref p156) (enc ([x150.1] : List (Tp3 (Tp2 Int Int) (Option (Tp2 Int Int)) (Tp2 Int Int)))) := r160
      replace P := P.lt
      generalize hx : (([x150.1] : List (Tp3 (Tp2 Int Int) (Option (Tp2 Int Int)) (Tp2 Int Int))) : (List (Tp3 (Tp2 Int Int) (Option (Tp2 Int Int)) (Tp2 Int Int)))) = x161 at P r160 ⊢
      obtain ⟨p162, xs163, hv, hs164, hr165⟩ := Rep.sq w r73
      cases hv
      obtain ⟨p166, xs167, hv, hs168, hr169⟩ := Rep.sq w r160
      cases hv
      obtain ⟨gd, P⟩ := P.guard
      refine h_cat hs164 hs168 (by have g := gd; simp only [hr165.length, hr169.length, List.length_map] at g ⊢; exact Nat.le_trans g (by decide)) ?_
      refine h_nwL w (ds := ((x74 ++ x161)).map enc) (K := K) (RepL.cat hr165 hr169) (fun p170 B171 H172 s173 r174 => ?_) 
      replace m_state := m_state.step s173 nm0
      replace r28 := r28.mono s173.ex
      replace r60 := r60.mono s173.ex
      replace r62 := r62.mono s173.ex
      replace r64 := r64.mono s173.ex
      replace r73 := r73.mono s173.ex
      replace r83 := r83.mono s173.ex
      replace m145 := m145.step s173 nm0
      replace st := st.go s173 go0
      replace w := s173.ok
      replace r174 : Rep K B171 (.ref p170) (enc (x74 ++ x161)) := r174
      refine h_sl ?_
      refine h_var rfl ?_
      refine h_part ?_
      refine h_var rfl ?_
      refine h_isI ?_
      refine h_nopart ?_
      obtain ⟨p175, xs176, hv, hs177, hr178⟩ := Rep.sq w (r_edits_here.mono st.ex)
      cases hv
      refine h_slQ hs177 ?_
      refine h_nwL w (ds := ((cutL a_edits_here (some x11.1) none)).map enc) (K := K) (hr178.cut (some x11.1) none) (fun p179 B180 H181 s182 r183 => ?_) 
      replace m_state := m_state.step s182 nm0
      replace r28 := r28.mono s182.ex
      replace r60 := r60.mono s182.ex
      replace r62 := r62.mono s182.ex
      replace r64 := r64.mono s182.ex
      replace r73 := r73.mono s182.ex
      replace r83 := r83.mono s182.ex
      replace m145 := m145.step s182 nm0
      replace r174 := r174.mono s182.ex
      replace st := st.go s182 go0
      replace w := s182.ok
      replace r183 : Rep K B180 (.ref p179) (enc (cutL a_edits_here (some x11.1) none)) := r183
      replace P := P.lt
      generalize hx : ((cutL a_edits_here (some x11.1) none) : (List (Tp3 (Tp2 Int Int) (Option (Tp2 Int Int)) (Tp2 Int Int)))) = x184 at P r183 ⊢
      obtain ⟨p185, xs186, hv, hs187, hr188⟩ := Rep.sq w r174
      cases hv
      obtain ⟨p189, xs190, hv, hs191, hr192⟩ := Rep.sq w r183
      cases hv
      obtain ⟨gd, P⟩ := P.guard
      refine h_cat hs187 hs191 (by have g := gd; simp only [hr188.length, hr192.length, List.length_map] at g ⊢; exact Nat.le_trans g (by decide)) ?_
      refine h_nwL w (ds := (((x74 ++ x161) ++ x184)).map enc) (K := K) (RepL.cat hr188 hr192) (fun p193 B194 H195 s196 r197 => ?_) 
      replace m_state := m_state.step s196 nm0
      replace r28 := r28.mono s196.ex
      replace r60 := r60.mono s196.ex
      replace r62 := r62.mono s196.ex
      replace r64 := r64.mono s196.ex
      replace r73 := r73.mono s196.ex
      replace r83 := r83.mono s196.ex
      replace m145 := m145.step s196 nm0
      replace st := st.go s196 go0
      replace w := s196.ok
      replace r197 : Rep K B194 (.ref p193) (enc ((x74 ++ x161) ++ x184)) := r197
      replace P := P.lt
      generalize hx : (((x74 ++ x161) ++ x184) : (List (Tp3 (Tp2 Int Int) (Option (Tp2 Int Int)) (Tp2 Int Int)))) = x198 at P r197 ⊢
      refine h_cons ?_
      refine h_op ?_
      refine h_var rfl ?_
      refine h_lst ?_
      refine h_cons ?_
      refine h_tup ?_
      refine h_cons ?_
      refine h_var rfl ?_
      refine h_cons ?_
      refine h_c ?_
      refine h_cons ?_
      refine h_tup ?_
      refine h_cons ?_
      refine h_c ?_
      refine h_cons ?_
      refine h_c ?_
      refine h_nil ?_
      refine h_newT w (K := K) (.cons (Rep.int _) (.cons (Rep.int _) .nil)) (fun p199 B200 H201 s202 r203 => ?_) (by show 2 ≤ sizeLine; decide)
      replace m_state := m_state.step s202 nm0
      replace r28 := r28.mono s202.ex
      replace r60 := r60.mono s202.ex
      replace r62 := r62.mono s202.ex
      replace r64 := r64.mono s202.ex
      replace r73 := r73.mono s202.ex
      replace r83 := r83.mono s202.ex
      replace m145 := m145.step s202 nm0
      replace r197 := r197.mono s202.ex
      replace st := st.go s202 go0
      replace w := s202.ok
      replace r203 : Rep K B200 (.ref p199) (enc (⟨0, 1⟩ : (Tp2 Int Int))) := r203
      refine h_nil ?_
      refine h_newT w (K := K) (.cons r28 (.cons Rep.non (.cons r203 .nil))) (fun p204 B205 H206 s207 r208 => ?_) (by show 3 ≤ sizeLine; decide)
      replace m_state := m_state.step s207 nm0
      replace r28 := r28.mono s207.ex
      replace r60 := r60.mono s207.ex
      replace r62 := r62.mono s207.ex
      replace r64 := r64.mono s207.ex
      replace r73 := r73.mono s207.ex
      replace r83 := r83.mono s207.ex
      replace m145 := m145.step s207 nm0
      replace r197 := r197.mono s207.ex
      replace st := st.go s207 go0
      replace w := s207.ok
      replace r208 : Rep K B205 (.ref p204) (enc (⟨x23, (), (⟨0, 1⟩ : (Tp2 Int Int))⟩ : (Tp3 (Tp2 Int Int) Unit (Tp2 Int Int)))) := r208
      refine h_nil ?_
      refine h_newL w (ds := (([(⟨(⟨x23, (), (⟨0, 1⟩ : (Tp2 Int Int))⟩ : (Tp3 (Tp2 Int Int) Unit (Tp2 Int Int))).a, none, (⟨x23, (), (⟨0, 1⟩ : (Tp2 Int Int))⟩ : (Tp3 (Tp2 Int Int) Unit (Tp2 Int Int))).c⟩ : (Tp3 (Tp2 Int Int) (Option (Tp2 Int Int)) (Tp2 Int Int)))] : List (Tp3 (Tp2 Int Int) (Option (Tp2 Int Int)) (Tp2 Int Int)))).map enc) (K := K) (.cons r208 .nil) (fun p209 B210 H211 s212 r213 => ?_) (by show 1 ≤ sizeLine; decide)
      replace m_state := m_state.step s212 nm0
      replace r28 := r28.mono s212.ex
      replace r60 := r60.mono s212.ex
      replace r62 := r62.mono s212.ex
      replace r64 := r64.mono s212.ex
      replace r73 := r73.mono s212.ex
      replace r83 := r83.mono s212.ex
      replace m145 := m145.step s212 nm0
      replace r197 := r197.mono s212.ex
      replace st := st.go s212 go0
      replace w := s212.ok
      replace r213 : Rep K B210 (.ref p209) (enc ([(⟨(⟨x23, (), (⟨0, 1⟩ : (Tp2 Int Int))⟩ : (Tp3 (Tp2 Int Int) Unit (Tp2 Int Int))).a, none, (⟨x23, (), (⟨0, 1⟩ : (Tp2 Int Int))⟩ : (Tp3 (Tp2 Int Int) Unit (Tp2 Int Int))).c⟩ : (Tp3 (Tp2 Int Int) (Option (Tp2 Int Int)) (Tp2 Int Int)))] : List (Tp3 (Tp2 Int Int) (Option (Tp2 Int Int)) (Tp2 Int Int)))) := r213
      replace P := P.lt
      generalize hx : (([(⟨(⟨x23, (), (⟨0, 1⟩ : (Tp2 Int Int))⟩ : (Tp3 (Tp2 Int Int) Unit (Tp2 Int Int))).a, none, (⟨x23, (), (⟨0, 1⟩ : (Tp2 Int Int))⟩ : (Tp3 (Tp2 Int Int) Unit (Tp2 Int Int))).c⟩ : (Tp3 (Tp2 Int Int) (Option (Tp2 Int Int)) (Tp2 Int Int)))] : List (Tp3 (Tp2 Int Int) (Option (Tp2 Int Int)) (Tp2 Int Int))) : (List (Tp3 (Tp2 Int Int) (Option (Tp2 Int Int)) (Tp2 Int Int)))) = x214 at P r213 ⊢
      obtain ⟨p215, xs216, hv, hs217, hr218⟩ := Rep.sq w (r_edits_here.mono st.ex)
      cases hv
      obtain ⟨p219, xs220, hv, hs221, hr222⟩ := Rep.sq w r213
      cases hv
      obtain ⟨gd, P⟩ := P.guard
      refine h_cat hs217 hs221 (by have g := gd; simp only [hr218.length, hr222.length, List.length_map] at g ⊢; exact Nat.le_trans g (by decide)) ?_
      refine h_nwL w (ds := ((a_edits_here ++ x214)).map enc) (K := K) (RepL.cat hr218 hr222) (fun p223 B224 H225 s226 r227 => ?_) 
      replace m_state := m_state.step s226 nm0
      replace r28 := r28.mono s226.ex
      replace r60 := r60.mono s226.ex
      replace r62 := r62.mono s226.ex
      replace r64 := r64.mono s226.ex
      replace r73 := r73.mono s226.ex
      replace r83 := r83.mono s226.ex
      replace m145 := m145.step s226 nm0
      replace r197 := r197.mono s226.ex
      replace st := st.go s226 go0
      replace w := s226.ok
      replace r227 : Rep K B224 (.ref p223) (enc (a_edits_here ++ x214)) := r227
      replace P := P.lt
      generalize hx : ((a_edits_here ++ x214) : (List (Tp3 (Tp2 Int Int) (Option (Tp2 Int Int)) (Tp2 Int Int)))) = x228 at P r227 ⊢
      refine h_nil ?_
      refine h_newL w (ds := (([x198, x228] : List (List (Tp3 (Tp2 Int Int) (Option (Tp2 Int Int)) (Tp2 Int Int))))).map enc) (K := K) (.cons r197 (.cons r227 .nil)) (fun p229 B230 H231 s232 r233 => ?_) (by show 2 ≤ sizeLine; decide)
      replace m_state := m_state.step s232 nm0
      replace r28 := r28.mono s232.ex
      replace r60 := r60.mono s232.ex
      replace r62 := r62.mono s232.ex
      replace r64 := r64.mono s232.ex
      replace r73 := r73.mono s232.ex
      replace r83 := r83.mono s232.ex
      replace m145 := m145.step s232 nm0
      replace st := st.go s232 go0
      replace w := s232.ok
      replace r233 : Rep K B230 (.ref p229) (enc ([x198, x228] : List (List (Tp3 (Tp2 Int Int) (Option (Tp2 Int Int)) (Tp2 Int Int))))) := r233
      replace P := P.lt
      generalize hx : (([x198, x228] : List (List (Tp3 (Tp2 Int Int) (Option (Tp2 Int Int)) (Tp2 Int Int)))) : (List (List (Tp3 (Tp2 Int Int) (Option (Tp2 Int Int)) (Tp2 Int Int))))) = x234 at P r233 ⊢
      obtain ⟨xs236, hv, hs237, hr238⟩ := Mu.sq m145
      obtain ⟨p239, xs240, hv, hs241, hr242⟩ := Rep.sq w r233
      cases hv
      obtain ⟨gd, P⟩ := P.guard
      refine h_cat hs237 hs241 (by have g := gd; simp only [hr238.length, hr242.length, List.length_map] at g ⊢; exact Nat.le_trans g (by decide)) ?_
      refine h_nwM w (ds := ((x149 ++ x234)).map enc) (K := K) (RepL.cat hr238 hr242) (fun p243 H244 hn247 s245 m246 => ?_) 
      have n248 := st.nn hn247
      have ne249 := Mu.ne m_state hn247
      have ne250 := Mu.ne m145 hn247
      replace m_state := m_state.step s245 nm0
      replace r28 := r28.mono s245.ex
      replace r60 := r60.mono s245.ex
      replace r62 := r62.mono s245.ex
      replace r64 := r64.mono s245.ex
      replace r73 := r73.mono s245.ex
      replace r83 := r83.mono s245.ex
      replace m145 := m145.step s245 nm0
      replace st := st.go s245 go0
      replace w := s245.ok
      try dsimp only
      refine h_nrm (σ' := [some ((.ref p_state)), some ((.ref p7)), some (.int x1.1), some (.int x11.1), some (v27), some (u59), some (u61), some (u63), some ((.ref p69)), some ((.ref p79)), some ((.ref p243)), none, none]) ?_
      refine h_set ?_
      refine h_op ?_
      refine h_var rfl ?_
      refine h_lst ?_
      refine h_cons ?_
      refine h_op ?_
      refine h_op ?_
      refine h_op ?_
      refine h_sl ?_
      refine h_var rfl ?_
      refine h_nopart ?_
      refine h_part ?_
      refine h_un ?_
      refine h_c ?_
      refine h_U ?_
      refine h_isI ?_
      obtain ⟨p251, xs252, hv, hs253, hr254⟩ := Rep.sq w r73
      cases hv
      refine h_slQ hs253 ?_
      refine h_nwL w (ds := ((cutL x74 none (some (-1)))).map enc) (K := K) (hr254.cut none (some (-1))) (fun p255 B256 H257 s258 r259 => ?_) 
      replace m_state := m_state.step s258 nm0
      replace r28 := r28.mono s258.ex
      replace r60 := r60.mono s258.ex
      replace r62 := r62.mono s258.ex
      replace r64 := r64.mono s258.ex
      replace r73 := r73.mono s258.ex
      replace r83 := r83.mono s258.ex
      replace m246 := m246.step s258 nm0
      replace st := st.go s258 go0
      replace w := s258.ok
      replace r259 : Rep K B256 (.ref p255) (enc (cutL x74 none (some (-1)))) := r259
      replace P := P.lt
      generalize hx : ((cutL x74 none (some (-1))) : (List (Tp3 (Tp2 Int Int) (Option (Tp2 Int Int)) (Tp2 Int Int)))) = x260 at P r259 ⊢
      refine h_lst ?_
      refine h_cons ?_
      refine h_op ?_
      refine h_var rfl ?_
      refine h_var rfl ?_
      obtain ⟨p261, xs262, hv, hs263, hr264⟩ := Rep.sq w (r_edits_here.mono st.ex)
      cases hv
      obtain ⟨x265, hx266, P⟩ := P.ix
      obtain ⟨u267, hu, r268⟩ := RepL.atE hr264 hx266
      refine h_ixL hs263 hu ?_
      refine h_nil ?_
      refine h_newL w (ds := (([x265] : List (Tp3 (Tp2 Int Int) (Option (Tp2 Int Int)) (Tp2 Int Int)))).map enc) (K := K) (.cons r268 .nil) (fun p269 B270 H271 s272 r273 => ?_) (by show 1 ≤ sizeLine; decide)
      replace m_state := m_state.step s272 nm0
      replace r28 := r28.mono s272.ex
      replace r60 := r60.mono s272.ex
      replace r62 := r62.mono s272.ex
      replace r64 := r64.mono s272.ex
      replace r73 := r73.mono s272.ex
      replace r83 := r83.mono s272.ex
      replace m246 := m246.step s272 nm0
      replace r259 := r259.mono s272.ex
      replace st := st.go s272 go0
      replace w := s272.ok
      replace r273 : Rep K B270 (.ref p269) (enc ([x265] : List (Tp3 (Tp2 Int Int) (Option (Tp2 Int Int)) (Tp2 Int Int)))) := r273
      replace P := P.lt
      generalize hx : (([x265] : List (Tp3 (Tp2 Int Int) (Option (Tp2 Int Int)) (Tp2 Int Int))) : (List (Tp3 (Tp2 Int Int) (Option (Tp2 Int Int)) (Tp2 Int Int)))) = x274 at P r273 ⊢
      obtain ⟨p275, xs276, hv, hs277, hr278⟩ := Rep.sq w r259
      cases hv
      obtain ⟨p279, xs280, hv, hs281, hr282⟩ := Rep.sq w r273
      cases hv
      obtain ⟨gd, P⟩ := P.guard
      refine h_cat hs277 hs281 (by have g := gd; simp only [hr278.length, hr282.length, List.length_map] at g ⊢; exact Nat.le_trans g (by decide)) ?_
      refine h_nwL w (ds := ((x260 ++ x274)).map enc) (K := K) (RepL.cat hr278 hr282) (fun p283 B284 H285 s286 r287 => ?_) 
      replace m_state := m_state.step s286 nm0
      replace r28 := r28.mono s286.ex
      replace r60 := r60.mono s286.ex
      replace r62 := r62.mono s286.ex
      replace r64 := r64.mono s286.ex
      replace r73 := r73.mono s286.ex
      replace r83 := r83.mono s286.ex
      replace m246 := m246.step s286 nm0
      replace st := st.go s286 go0
      replace w := s286.ok
      replace r287 : Rep K B284 (.ref p283) (enc (x260 ++ x274)) := r287
      refine h_sl ?_
      refine h_var rfl ?_
      refine h_part ?_
      refine h_un ?_
      refine h_c ?_
      refine h_U ?_
      refine h_isI ?_
      refine h_nopart ?_
      obtain ⟨p288, xs289, hv, hs290, hr291⟩ := Rep.sq w r73
      cases hv
      refine h_slQ hs290 ?_
      refine h_nwL w (ds := ((cutL x74 (some (-1)) none)).map enc) (K := K) (hr291.cut (some (-1)) none) (fun p292 B293 H294 s295 r296 => ?_) 
      replace m_state := m_state.step s295 nm0
      replace r28 := r28.mono s295.ex
      replace r60 := r60.mono s295.ex
      replace r62 := r62.mono s295.ex
      replace r64 := r64.mono s295.ex
      replace r73 := r73.mono s295.ex
      replace r83 := r83.mono s295.ex
      replace m246 := m246.step s295 nm0
      replace r287 := r287.mono s295.ex
      replace st := st.go s295 go0
      replace w := s295.ok
      replace r296 : Rep K B293 (.ref p292) (enc (cutL x74 (some (-1)) none)) := r296
      replace P := P.lt
      generalize hx : ((cutL x74 (some (-1)) none) : (List (Tp3 (Tp2 Int Int) (Option (Tp2 Int Int)) (Tp2 Int Int)))) = x297 at P r296 ⊢
      obtain ⟨p298, xs299, hv, hs300, hr301⟩ := Rep.sq w r287
      cases hv
      obtain ⟨p302, xs303, hv, hs304, hr305⟩ := Rep.sq w r296
      cases hv
      obtain ⟨gd, P⟩ := P.guard
      refine h_cat hs300 hs304 (by have g := gd; simp only [hr301.length, hr305.length, List.length_map] at g ⊢; exact Nat.le_trans g (by decide)) ?_
      refine h_nwL w (ds := (((x260 ++ x274) ++ x297)).map enc) (K := K) (RepL.cat hr301 hr305) (fun p306 B307 H308 s309 r310 => ?_) 
      replace m_state := m_state.step s309 nm0
      replace r28 := r28.mono s309.ex
      replace r60 := r60.mono s309.ex
      replace r62 := r62.mono s309.ex
      replace r64 := r64.mono s309.ex
      replace r73 := r73.mono s309.ex
      replace r83 := r83.mono s309.ex
      replace m246 := m246.step s309 nm0
      replace st := st.go s309 go0
      replace w := s309.ok
      replace r310 : Rep K B307 (.ref p306) (enc ((x260 ++ x274) ++ x297)) := r310
      replace P := P.lt
      generalize hx : (((x260 ++ x274) ++ x297) : (List (Tp3 (Tp2 Int Int) (Option (Tp2 Int Int)) (Tp2 Int Int)))) = x311 at P r310 ⊢
      refine h_var rfl ?_
      obtain ⟨p312, xs313, hv, hs314, hr315⟩ := Rep.sq w r310
      cases hv
      obtain ⟨p316, xs317, hv, hs318, hr319⟩ := Rep.sq w r83
      cases hv
      obtain ⟨gd, P⟩ := P.guard
      refine h_cat hs314 hs318 (by have g := gd; simp only [hr315.length, hr319.length, List.length_map] at g ⊢; exact Nat.le_trans g (by decide)) ?_
      refine h_nwL w (ds := ((x311 ++ x84)).map enc) (K := K) (RepL.cat hr315 hr319) (fun p320 B321 H322 s323 r324 => ?_) 
      replace m_state := m_state.step s323 nm0
      replace r28 := r28.mono s323.ex
      replace r60 := r60.mono s323.ex
      replace r62 := r62.mono s323.ex
      replace r64 := r64.mono s323.ex
      replace r73 := r73.mono s323.ex
      replace r83 := r83.mono s323.ex
      replace m246 := m246.step s323 nm0
      replace st := st.go s323 go0
      replace w := s323.ok
      replace r324 : Rep K B321 (.ref p320) (enc (x311 ++ x84)) := r324
      refine h_cons ?_
      refine h_var rfl ?_
      refine h_nil ?_
      refine h_newL w (ds := (([(x311 ++ x84), a_edits_here] : List (List (Tp3 (Tp2 Int Int) (Option (Tp2 Int Int)) (Tp2 Int Int))))).map enc) (K := K) (.cons r324 (.cons (r_edits_here.mono st.ex) .nil)) (fun p325 B326 H327 s328 r329 => ?_) (by show 2 ≤ sizeLine; decide)
      replace m_state := m_state.step s328 nm0
      replace r28 := r28.mono s328.ex
      replace r60 := r60.mono s328.ex
      replace r62 := r62.mono s328.ex
      replace r64 := r64.mono s328.ex
      replace r73 := r73.mono s328.ex
      replace r83 := r83.mono s328.ex
      replace m246 := m246.step s328 nm0
      replace st := st.go s328 go0
      replace w := s328.ok
      replace r329 : Rep K B326 (.ref p325) (enc ([(x311 ++ x84), a_edits_here] : List (List (Tp3 (Tp2 Int Int) (Option (Tp2 Int Int)) (Tp2 Int Int))))) := r329
      replace P := P.lt
      generalize hx : (([(x311 ++ x84), a_edits_here] : List (List (Tp3 (Tp2 Int Int) (Option (Tp2 Int Int)) (Tp2 Int Int)))) : (List (List (Tp3 (Tp2 Int Int) (Option (Tp2 Int Int)) (Tp2 Int Int))))) = x330 at P r329 ⊢
      obtain ⟨xs332, hv, hs333, hr334⟩ := Mu.sq m246
      obtain ⟨p335, xs336, hv, hs337, hr338⟩ := Rep.sq w r329
      cases hv
      obtain ⟨gd, P⟩ := P.guard
      refine h_cat hs333 hs337 (by have g := gd; simp only [hr334.length, hr338.length, List.length_map] at g ⊢; exact Nat.le_trans g (by decide)) ?_
      refine h_nwM w (ds := (((x149 ++ x234) ++ x330)).map enc) (K := K) (RepL.cat hr334 hr338) (fun p339 H340 hn343 s341 m342 => ?_) 
      have n344 := st.nn hn343
      have ne345 := Mu.ne m_state hn343
      have ne346 := Mu.ne m246 hn343
      replace m_state := m_state.step s341 nm0
      replace r28 := r28.mono s341.ex
      replace r60 := r60.mono s341.ex
      replace r62 := r62.mono s341.ex
      replace r64 := r64.mono s341.ex
      replace r73 := r73.mono s341.ex
      replace r83 := r83.mono s341.ex
      replace m246 := m246.step s341 nm0
      replace st := st.go s341 go0
      replace w := s341.ok
      replace P := P.lt
      generalize hx : (((x149 ++ x234) ++ x330) : (List (List (Tp3 (Tp2 Int Int) (Option (Tp2 Int Int)) (Tp2 Int Int))))) = x347 at P m342 ⊢
      try dsimp only
      refine h_nrm (σ' := [some ((.ref p_state)), some ((.ref p7)), some (.int x1.1), some (.int x11.1), some (v27), some (u59), some (u61), some (u63), some ((.ref p69)), some ((.ref p79)), some ((.ref p339)), none, none]) ?_
      refine h_set ?_
      refine h_call ?_
      refine h_cons ?_
      refine h_var rfl ?_
      refine h_cons ?_
      refine h_tup ?_
      refine h_cons ?_
      refine h_c ?_
      refine h_cons ?_
      refine h_c ?_
      refine h_nil ?_
      refine h_newT w (K := K) (.cons (Rep.int _) (.cons (Rep.int _) .nil)) (fun p348 B349 H350 s351 r352 => ?_) (by show 2 ≤ sizeLine; decide)
      replace m_state := m_state.step s351 nm0
      replace r28 := r28.mono s351.ex
      replace r60 := r60.mono s351.ex
      replace r62 := r62.mono s351.ex
      replace r64 := r64.mono s351.ex
      replace r73 := r73.mono s351.ex
      replace r83 := r83.mono s351.ex
      replace m342 := m342.step s351 nm0
      replace st := st.go s351 go0
      replace w := s351.ok
      replace r352 : Rep K B349 (.ref p348) (enc (⟨1, 2⟩ : (Tp2 Int Int))) := r352
      refine h_nil ?_
      refine ⟨B349, u59, x51.a, (.ref p348), (⟨1, 2⟩ : (Tp2 Int Int)), w, rfl, r60, r352, (P.bind).mono (fun x353 P => ?_) (fun _ z => z)⟩
      refine fun v357 B354 H355 s356 r358 => ?_
      replace m_state := m_state.step s356 nm0
      replace r28 := r28.mono s356.ex
      replace r60 := r60.mono s356.ex
      replace r62 := r62.mono s356.ex
      replace r64 := r64.mono s356.ex
      replace r73 := r73.mono s356.ex
      replace r83 := r83.mono s356.ex
      replace m342 := m342.step s356 nm0
      replace r352 := r352.mono s356.ex
      replace st := st.go s356 go0
      replace w := s356.ok
      try dsimp only
      refine h_nrm (σ' := [some ((.ref p_state)), some ((.ref p7)), some (.int x1.1), some (.int x11.1), some (v27), some (u59), some (u61), some (u63), some ((.ref p69)), some ((.ref p79)), some ((.ref p339)), some (v357), none]) ?_
      have wj360 := w
      have sj359 := Stp.refl (W := []) w
      refine h_joinS P (fun (a : (List (List (Tp3 (Tp2 Int Int) (Option (Tp2 Int Int)) (Tp2 Int Int))))) σ' H' => ∃ (B' : Hp) (v0 : V) (o__law_middle : Option V), Stp [] B354 H355 B' H' ∧ σ' = [some ((.ref p_state)), some ((.ref p7)), some (.int x1.1), some (.int x11.1), some (v27), some (u59), some (u61), some (u63), some ((.ref p69)), some ((.ref p79)), some v0, some (v357), o__law_middle] ∧ Rep K B' v0 (enc a)) (fun N kk361 P => h_if ?_) ?_
      · skip
        refine h_test ?_
        refine h_op ?_
        refine h_var rfl ?_
        refine h_c ?_
        refine h_isN r62 ?_
        refine h_bl ?_
        refine h_ite (fun c1 => ?_) (fun c1 => ?_)
        · replace P := P.iteT c1
          refine h_set ?_
          refine h_op ?_
          refine h_var rfl ?_
          refine h_lst ?_
          refine h_cons ?_
          refine h_op ?_
          refine h_op ?_
          refine h_var rfl ?_
          refine h_lst ?_
          refine h_cons ?_
          refine h_tup ?_
          refine h_cons ?_
          refine h_var rfl ?_
          refine h_cons ?_
          refine h_c ?_
          refine h_cons ?_
          refine h_var rfl ?_
          refine h_nil ?_
          refine h_newT w (K := K) (.cons r358 (.cons Rep.non (.cons r64 .nil))) (fun p362 B363 H364 s365 r366 => ?_) (by show 3 ≤ sizeLine; decide)
          replace m_state := m_state.step s365 nm0
          replace r28 := r28.mono s365.ex
          replace r60 := r60.mono s365.ex
          replace r62 := r62.mono s365.ex
          replace r64 := r64.mono s365.ex
          replace r73 := r73.mono s365.ex
          replace r83 := r83.mono s365.ex
          replace m342 := m342.step s365 nm0
          replace r358 := r358.mono s365.ex
          replace st := st.go s365 go0
          replace sj359 := sj359.go s365 go0
          replace w := s365.ok
          replace r366 : Rep K B363 (.ref p362) (enc (⟨x353, (), x51.c⟩ : (Tp3 (Tp2 Int Int) Unit (Tp2 Int Int)))) := r366
          refine h_cons ?_
          refine h_tup ?_
          refine h_cons ?_
          refine h_var rfl ?_
          refine h_cons ?_
          refine h_c ?_
          refine h_cons ?_
          refine h_var rfl ?_
          refine h_nil ?_
          refine h_newT w (K := K) (.cons r358 (.cons Rep.non (.cons r64 .nil))) (fun p367 B368 H369 s370 r371 => ?_) (by show 3 ≤ sizeLine; decide)
          replace m_state := m_state.step s370 nm0
          replace r28 := r28.mono s370.ex
          replace r60 := r60.mono s370.ex
          replace r62 := r62.mono s370.ex
          replace r64 := r64.mono s370.ex
          replace r73 := r73.mono s370.ex
          replace r83 := r83.mono s370.ex
          replace m342 := m342.step s370 nm0
          replace r358 := r358.mono s370.ex
          replace r366 := r366.mono s370.ex
          replace st := st.go s370 go0
          replace sj359 := sj359.go s370 go0
          replace w := s370.ok
          replace r371 : Rep K B368 (.ref p367) (enc (⟨x353, (), x51.c⟩ : (Tp3 (Tp2 Int Int) Unit (Tp2 Int Int)))) := r371
          refine h_nil ?_
          refine h_newL w (ds := (([(⟨(⟨x353, (), x51.c⟩ : (Tp3 (Tp2 Int Int) Unit (Tp2 Int Int))).a, none, (⟨x353, (), x51.c⟩ : (Tp3 (Tp2 Int Int) Unit (Tp2 Int Int))).c⟩ : (Tp3 (Tp2 Int Int) (Option (Tp2 Int Int)) (Tp2 Int Int))), (⟨(⟨x353, (), x51.c⟩ : (Tp3 (Tp2 Int Int) Unit (Tp2 Int Int))).a, none, (⟨x353, (), x51.c⟩ : (Tp3 (Tp2 Int Int) Unit (Tp2 Int Int))).c⟩ : (Tp3 (Tp2 Int Int) (Option (Tp2 Int Int)) (Tp2 Int Int)))] : List (Tp3 (Tp2 Int Int) (Option (Tp2 Int Int)) (Tp2 Int Int)))).map enc) (K := K) (.cons r366 (.cons r371 .nil)) (fun p372 B373 H374 s375 r376 => ?_) (by show 2 ≤ sizeLine; decide)
          replace m_state := m_state.step s375 nm0
          replace r28 := r28.mono s375.ex
          replace r60 := r60.mono s375.ex
          replace r62 := r62.mono s375.ex
          replace r64 := r64.mono s375.ex
          replace r73 := r73.mono s375.ex
          replace r83 := r83.mono s375.ex
          replace m342 := m342.step s375 nm0
          replace r358 := r358.mono s375.ex
          replace st := st.go s375 go0
          replace sj359 := sj359.go s375 go0
          replace w := s375.ok
          replace r376 : Rep K B373 (.ref p372) (enc ([(⟨(⟨x353, (), x51.c⟩ : (Tp3 (Tp2 Int Int) Unit (Tp2 Int Int))).a, none, (⟨x353, (), x51.c⟩ : (Tp3 (Tp2 Int Int) Unit (Tp2 Int Int))).c⟩ : (Tp3 (Tp2 Int Int) (Option (Tp2 Int Int)) (Tp2 Int Int))), (⟨(⟨x353, (), x51.c⟩ : (Tp3 (Tp2 Int Int) Unit (Tp2 Int Int))).a, none, (⟨x353, (), x51.c⟩ : (Tp3 (Tp2 Int Int) Unit (Tp2 Int Int))).c⟩ : (Tp3 (Tp2 Int Int) (Option (Tp2 Int Int)) (Tp2 Int Int)))] : List (Tp3 (Tp2 Int Int) (Option (Tp2 Int Int)) (Tp2 Int Int)))) := r376
          replace P := P.lt
          generalize hx : (([(⟨(⟨x353, (), x51.c⟩ : (Tp3 (Tp2 Int Int) Unit (Tp2 Int Int))).a, none, (⟨x353, (), x51.c⟩ : (Tp3 (Tp2 Int Int) Unit (Tp2 Int Int))).c⟩ : (Tp3 (Tp2 Int Int) (Option (Tp2 Int Int)) (Tp2 Int Int))), (⟨(⟨x353, (), x51.c⟩ : (Tp3 (Tp2 Int Int) Unit (Tp2 Int Int))).a, none, (⟨x353, (), x51.c⟩ : (Tp3 (Tp2 Int Int) Unit (Tp2 Int Int))).c⟩ : (Tp3 (Tp2 Int Int) (Option (Tp2 Int Int)) (Tp2 Int Int)))] : List (Tp3 (Tp2 Int Int) (Option (Tp2 Int Int)) (Tp2 Int Int))) : (List (Tp3 (Tp2 Int Int) (Option (Tp2 Int Int)) (Tp2 Int Int)))) = x377 at P r376 ⊢
          obtain ⟨p378, xs379, hv, hs380, hr381⟩ := Rep.sq w r73
          cases hv
          obtain ⟨p382, xs383, hv, hs384, hr385⟩ := Rep.sq w r376
          cases hv
          obtain ⟨gd, P⟩ := P.guard
          refine h_cat hs380 hs384 (by have g := gd; simp only [hr381.length, hr385.length, List.length_map] at g ⊢; exact Nat.le_trans g (by decide)) ?_
          refine h_nwL w (ds := ((x74 ++ x377)).map enc) (K := K) (RepL.cat hr381 hr385) (fun p386 B387 H388 s389 r390 => ?_) 
          replace m_state := m_state.step s389 nm0
          replace r28 := r28.mono s389.ex
          replace r60 := r60.mono s389.ex
          replace r62 := r62.mono s389.ex
          replace r64 := r64.mono s389.ex
          replace r73 := r73.mono s389.ex
          replace r83 := r83.mono s389.ex
          replace m342 := m342.step s389 nm0
          replace r358 := r358.mono s389.ex
          replace st := st.go s389 go0
          replace sj359 := sj359.go s389 go0
          replace w := s389.ok
          replace r390 : Rep K B387 (.ref p386) (enc (x74 ++ x377)) := r390
          refine h_var rfl ?_
          obtain ⟨p391, xs392, hv, hs393, hr394⟩ := Rep.sq w r390
          cases hv
          obtain ⟨p395, xs396, hv, hs397, hr398⟩ := Rep.sq w r83
          cases hv
          obtain ⟨gd, P⟩ := P.guard
          refine h_cat hs393 hs397 (by have g := gd; simp only [hr394.length, hr398.length, List.length_map] at g ⊢; exact Nat.le_trans g (by decide)) ?_
          refine h_nwL w (ds := (((x74 ++ x377) ++ x84)).map enc) (K := K) (RepL.cat hr394 hr398) (fun p399 B400 H401 s402 r403 => ?_) 
          replace m_state := m_state.step s402 nm0
          replace r28 := r28.mono s402.ex
          replace r60 := r60.mono s402.ex
          replace r62 := r62.mono s402.ex
          replace r64 := r64.mono s402.ex
          replace r73 := r73.mono s402.ex
          replace r83 := r83.mono s402.ex
          replace m342 := m342.step s402 nm0
          replace r358 := r358.mono s402.ex
          replace st := st.go s402 go0
          replace sj359 := sj359.go s402 go0
          replace w := s402.ok
          replace r403 : Rep K B400 (.ref p399) (enc ((x74 ++ x377) ++ x84)) := r403
          replace P := P.lt
          generalize hx : (((x74 ++ x377) ++ x84) : (List (Tp3 (Tp2 Int Int) (Option (Tp2 Int Int)) (Tp2 Int Int)))) = x404 at P r403 ⊢
          refine h_nil ?_
          refine h_newL w (ds := (([x404] : List (List (Tp3 (Tp2 Int Int) (Option (Tp2 Int Int)) (Tp2 Int Int))))).map enc) (K := K) (.cons r403 .nil) (fun p405 B406 H407 s408 r409 => ?_) (by show 1 ≤ sizeLine; decide)
          replace m_state := m_state.step s408 nm0
          replace r28 := r28.mono s408.ex
          replace r60 := r60.mono s408.ex
          replace r62 := r62.mono s408.ex
          replace r64 := r64.mono s408.ex
          replace r73 := r73.mono s408.ex
          replace r83 := r83.mono s408.ex
          replace m342 := m342.step s408 nm0
          replace r358 := r358.mono s408.ex
          replace st := st.go s408 go0
          replace sj359 := sj359.go s408 go0
          replace w := s408.ok
          replace r409 : Rep K B406 (.ref p405) (enc ([x404] : List (List (Tp3 (Tp2 Int Int) (Option (Tp2 Int Int)) (Tp2 Int Int))))) := r409
          replace P := P.lt
          generalize hx : (([x404] : List (List (Tp3 (Tp2 Int Int) (Option (Tp2 Int Int)) (Tp2 Int Int)))) : (List (List (Tp3 (Tp2 Int Int) (Option (Tp2 Int Int)) (Tp2 Int Int))))) = x410 at P r409 ⊢
          obtain ⟨xs412, hv, hs413, hr414⟩ := Mu.sq m342
          obtain ⟨p415, xs416, hv, hs417, hr418⟩ := Rep.sq w r409
          cases hv
          obtain ⟨gd, P⟩ := P.guard
          refine h_cat hs413 hs417 (by have g := gd; simp only [hr414.length, hr418.length, List.length_map] at g ⊢; exact Nat.le_trans g (by decide)) ?_
          refine h_nwM w (ds := ((x347 ++ x410)).map enc) (K := K) (RepL.cat hr414 hr418) (fun p419 H420 hn423 s421 m422 => ?_) 
          have n424 := st.nn hn423
          have n425 := sj359.nn hn423
          have ne426 := Mu.ne m_state hn423
          have ne427 := Mu.ne m342 hn423
          replace m_state := m_state.step s421 nm0
          replace r28 := r28.mono s421.ex
          replace r60 := r60.mono s421.ex
          replace r62 := r62.mono s421.ex
          replace r64 := r64.mono s421.ex
          replace r73 := r73.mono s421.ex
          replace r83 := r83.mono s421.ex
          replace m342 := m342.step s421 nm0
          replace r358 := r358.mono s421.ex
          replace st := st.go s421 go0
          replace sj359 := sj359.go s421 go0
          replace w := s421.ok
          try dsimp only
          refine h_nrm (σ' := [some ((.ref p_state)), some ((.ref p7)), some (.int x1.1), some (.int x11.1), some (v27), some (u59), some (u61), some (u63), some ((.ref p69)), some ((.ref p79)), some ((.ref p419)), some (v357), none]) ?_
          refine h_set1 ?_
          refine h_op ?_
          refine h_var rfl ?_
          refine h_lst ?_
          refine h_cons ?_
          refine h_op ?_
          refine h_op ?_
          refine h_var rfl ?_
          refine h_lst ?_
          refine h_cons ?_
          refine h_tup ?_
          refine h_cons ?_
          refine h_var rfl ?_
          refine h_cons ?_
          refine h_var rfl ?_
          refine h_cons ?_
          refine h_tup ?_
          refine h_cons ?_
          refine h_c ?_
          refine h_cons ?_
          refine h_c ?_
          refine h_nil ?_
          refine h_newT w (K := K) (.cons (Rep.int _) (.cons (Rep.int _) .nil)) (fun p428 B429 H430 s431 r432 => ?_) (by show 2 ≤ sizeLine; decide)
          replace m_state := m_state.step s431 nm0
          replace r28 := r28.mono s431.ex
          replace r60 := r60.mono s431.ex
          replace r62 := r62.mono s431.ex
          replace r64 := r64.mono s431.ex
          replace r73 := r73.mono s431.ex
          replace r83 := r83.mono s431.ex
          replace m422 := m422.step s431 nm0
          replace r358 := r358.mono s431.ex
          replace st := st.go s431 go0
          replace sj359 := sj359.go s431 go0
          replace w := s431.ok
          replace r432 : Rep K B429 (.ref p428) (enc (⟨0, 1⟩ : (Tp2 Int Int))) := r432
          refine h_nil ?_
          refine h_newT w (K := K) (.cons r60 (.cons r28 (.cons r432 .nil))) (fun p433 B434 H435 s436 r437 => ?_) (by show 3 ≤ sizeLine; decide)
          replace m_state := m_state.step s436 nm0
          replace r28 := r28.mono s436.ex
          replace r60 := r60.mono s436.ex
          replace r62 := r62.mono s436.ex
          replace r64 := r64.mono s436.ex
          replace r73 := r73.mono s436.ex
          replace r83 := r83.mono s436.ex
          replace m422 := m422.step s436 nm0
          replace r358 := r358.mono s436.ex
          replace st := st.go s436 go0
          replace sj359 := sj359.go s436 go0
          replace w := s436.ok
          replace r437 : Rep K B434 (.ref p433) (enc (⟨x51.a, x23, (⟨0, 1⟩ : (Tp2 Int Int))⟩ : (Tp3 (Tp2 Int Int) (Tp2 Int Int) (Tp2 Int Int)))) := r437
          refine h_nil ?_
          refine h_newL w (ds := (([(⟨(⟨x51.a, x23, (⟨0, 1⟩ : (Tp2 Int Int))⟩ : (Tp3 (Tp2 Int Int) (Tp2 Int Int) (Tp2 Int Int))).a, (some ((⟨x51.a, x23, (⟨0, 1⟩ : (Tp2 Int Int))⟩ : (Tp3 (Tp2 Int Int) (Tp2 Int Int) (Tp2 Int Int))).b)), (⟨x51.a, x23, (⟨0, 1⟩ : (Tp2 Int Int))⟩ : (Tp3 (Tp2 Int Int) (Tp2 Int Int) (Tp2 Int Int))).c⟩ : (Tp3 (Tp2 Int Int) (Option (Tp2 Int Int)) (Tp2 Int Int)))] : List (Tp3 (Tp2 Int Int) (Option (Tp2 Int Int)) (Tp2 Int Int)))).map enc) (K := K) (.cons r437 .nil) (fun p438 B439 H440 s441 r442 => ?_) (by show 1 ≤ sizeLine; decide)
          replace m_state := m_state.step s441 nm0
          replace r28 := r28.mono s441.ex
          replace r60 := r60.mono s441.ex
          replace r62 := r62.mono s441.ex
          replace r64 := r64.mono s441.ex
          replace r73 := r73.mono s441.ex
          replace r83 := r83.mono s441.ex
          replace m422 := m422.step s441 nm0
          replace r358 := r358.mono s441.ex
          replace st := st.go s441 go0
          replace sj359 := sj359.go s441 go0
          replace w := s441.ok
          replace r442 : Rep K B439 (.ref p438) (enc ([(⟨(⟨x51.a, x23, (⟨0, 1⟩ : (Tp2 Int Int))⟩ : (Tp3 (Tp2 Int Int) (Tp2 Int Int) (Tp2 Int Int))).a, (some ((⟨x51.a, x23, (⟨0, 1⟩ : (Tp2 Int Int))⟩ : (Tp3 (Tp2 Int Int) (Tp2 Int Int) (Tp2 Int Int))).b)), (⟨x51.a, x23, (⟨0, 1⟩ : (Tp2 Int Int))⟩ : (Tp3 (Tp2 Int Int) (Tp2 Int Int) (Tp2 Int Int))).c⟩ : (Tp3 (Tp2 Int Int) (Option (Tp2 Int Int)) (Tp2 Int Int)))] : List (Tp3 (Tp2 Int Int) (Option (Tp2 Int Int)) (Tp2 Int Int)))) := r442
          replace P := P.lt
          generalize hx : (([(⟨(⟨x51.a, x23, (⟨0, 1⟩ : (Tp2 Int Int))⟩ : (Tp3 (Tp2 Int Int) (Tp2 Int Int) (Tp2 Int Int))).a, (some ((⟨x51.a, x23, (⟨0, 1⟩ : (Tp2 Int Int))⟩ : (Tp3 (Tp2 Int Int) (Tp2 Int Int) (Tp2 Int Int))).b)), (⟨x51.a, x23, (⟨0, 1⟩ : (Tp2 Int Int))⟩ : (Tp3 (Tp2 Int Int) (Tp2 Int Int) (Tp2 Int Int))).c⟩ : (Tp3 (Tp2 Int Int) (Option (Tp2 Int Int)) (Tp2 Int Int)))] : List (Tp3 (Tp2 Int Int) (Option (Tp2 Int Int)) (Tp2 Int Int))) : (List (Tp3 (Tp2 Int Int) (Option (Tp2 Int Int)) (Tp2 Int Int)))) = x443 at P r442 ⊢
          obtain ⟨p444, xs445, hv, hs446, hr447⟩ := Rep.sq w r73
          cases hv
          obtain ⟨p448, xs449, hv, hs450, hr451⟩ := Rep.sq w r442
          cases hv
          obtain ⟨gd, P⟩ := P.guard
          refine h_cat hs446 hs450 (by have g := gd; simp only [hr447.length, hr451.length, List.length_map] at g ⊢; exact Nat.le_trans g (by decide)) ?_
          refine h_nwL w (ds := ((x74 ++ x443)).map enc) (K := K) (RepL.cat hr447 hr451) (fun p452 B453 H454 s455 r456 => ?_) 
          replace m_state := m_state.step s455 nm0
          replace r28 := r28.mono s455.ex
          replace r60 := r60.mono s455.ex
          replace r62 := r62.mono s455.ex
          replace r64 := r64.mono s455.ex
          replace r73 := r73.mono s455.ex
          replace r83 := r83.mono s455.ex
          replace m422 := m422.step s455 nm0
          replace r358 := r358.mono s455.ex
          replace st := st.go s455 go0
          replace sj359 := sj359.go s455 go0
          replace w := s455.ok
          replace r456 : Rep K B453 (.ref p452) (enc (x74 ++ x443)) := r456
          refine h_var rfl ?_
          obtain ⟨p457, xs458, hv, hs459, hr460⟩ := Rep.sq w r456
          cases hv
          obtain ⟨p461, xs462, hv, hs463, hr464⟩ := Rep.sq w r83
          cases hv
          obtain ⟨gd, P⟩ := P.guard
          refine h_cat hs459 hs463 (by have g := gd; simp only [hr460.length, hr464.length, List.length_map] at g ⊢; exact Nat.le_trans g (by decide)) ?_
          refine h_nwL w (ds := (((x74 ++ x443) ++ x84)).map enc) (K := K) (RepL.cat hr460 hr464) (fun p465 B466 H467 s468 r469 => ?_) 
          replace m_state := m_state.step s468 nm0
          replace r28 := r28.mono s468.ex
          replace r60 := r60.mono s468.ex
          replace r62 := r62.mono s468.ex
          replace r64 := r64.mono s468.ex
          replace r73 := r73.mono s468.ex
          replace r83 := r83.mono s468.ex
          replace m422 := m422.step s468 nm0
          replace r358 := r358.mono s468.ex
          replace st := st.go s468 go0
          replace sj359 := sj359.go s468 go0
          replace w := s468.ok
          replace r469 : Rep K B466 (.ref p465) (enc ((x74 ++ x443) ++ x84)) := r469
          replace P := P.lt
          generalize hx : (((x74 ++ x443) ++ x84) : (List (Tp3 (Tp2 Int Int) (Option (Tp2 Int Int)) (Tp2 Int Int)))) = x470 at P r469 ⊢
          refine h_nil ?_
          refine h_newL w (ds := (([x470] : List (List (Tp3 (Tp2 Int Int) (Option (Tp2 Int Int)) (Tp2 Int Int))))).map enc) (K := K) (.cons r469 .nil) (fun p471 B472 H473 s474 r475 => ?_) (by show 1 ≤ sizeLine; decide)
          replace m_state := m_state.step s474 nm0
          replace r28 := r28.mono s474.ex
          replace r60 := r60.mono s474.ex
          replace r62 := r62.mono s474.ex
          replace r64 := r64.mono s474.ex
          replace r73 := r73.mono s474.ex
          replace r83 := r83.mono s474.ex
          replace m422 := m422.step s474 nm0
          replace r358 := r358.mono s474.ex
          replace st := st.go s474 go0
          replace sj359 := sj359.go s474 go0
          replace w := s474.ok
          replace r475 : Rep K B472 (.ref p471) (enc ([x470] : List (List (Tp3 (Tp2 Int Int) (Option (Tp2 Int Int)) (Tp2 Int Int))))) := r475
          replace P := P.lt
          generalize hx : (([x470] : List (List (Tp3 (Tp2 Int Int) (Option (Tp2 Int Int)) (Tp2 Int Int)))) : (List (List (Tp3 (Tp2 Int Int) (Option (Tp2 Int Int)) (Tp2 Int Int))))) = x476 at P r475 ⊢
          obtain ⟨xs478, hv, hs479, hr480⟩ := Mu.sq m422
          obtain ⟨p481, xs482, hv, hs483, hr484⟩ := Rep.sq w r475
          cases hv
          obtain ⟨gd, P⟩ := P.guard
          refine h_cat hs479 hs483 (by have g := gd; simp only [hr480.length, hr484.length, List.length_map] at g ⊢; exact Nat.le_trans g (by decide)) ?_
          refine h_nwM w (ds := (((x347 ++ x410) ++ x476)).map enc) (K := K) (RepL.cat hr480 hr484) (fun p485 H486 hn489 s487 m488 => ?_) 
          have n490 := st.nn hn489
          have n491 := sj359.nn hn489
          have ne492 := Mu.ne m_state hn489
          have ne493 := Mu.ne m422 hn489
          replace m_state := m_state.step s487 nm0
          replace r28 := r28.mono s487.ex
          replace r60 := r60.mono s487.ex
          replace r62 := r62.mono s487.ex
          replace r64 := r64.mono s487.ex
          replace r73 := r73.mono s487.ex
          replace r83 := r83.mono s487.ex
          replace m422 := m422.step s487 nm0
          replace r358 := r358.mono s487.ex
          replace st := st.go s487 go0
          replace sj359 := sj359.go s487 go0
          replace w := s487.ok
          replace P := P.lt
          generalize hx : (((x347 ++ x410) ++ x476) : (List (List (Tp3 (Tp2 Int Int) (Option (Tp2 Int Int)) (Tp2 Int Int))))) = x494 at P m488 ⊢
          refine h_nx ?_
          obtain ⟨B499, e495, k496, g497, r498⟩ := Mu.keep m488
          replace st := g497 _ _ _ st w0 n490
          replace sj359 := g497 _ _ _ sj359 wj360 n491
          replace m_state := m_state.kp e495 k496 ne492
          replace r28 := r28.mono e495
          replace r60 := r60.mono e495
          replace r62 := r62.mono e495
          replace r64 := r64.mono e495
          replace r73 := r73.mono e495
          replace r83 := r83.mono e495
          replace r358 := r358.mono e495
          replace w := st.ok
          replace r498 : Rep K B499 (.ref p485) (enc x494) := r498
          exact kk361 x494 _ _ ⟨_, (.ref p485), _, sj359, rfl, r498⟩ P.ok
        · replace P := P.iteF c1
          refine h_set ?_
          refine h_call ?_
          refine h_cons ?_
          refine h_var rfl ?_
          refine h_cons ?_
          refine h_call ?_
          refine h_cons ?_
          refine h_var rfl ?_
          refine h_cons ?_
          refine h_var rfl ?_
          refine h_nil ?_
          refine ⟨B354, u63, x51.c, v357, x353, w, rfl, r64, r358, (P.bind).mono (fun x500 P => ?_) (fun _ z => z)⟩
          refine fun v504 B501 H502 s503 r505 => ?_
          replace m_state := m_state.step s503 nm0
          replace r28 := r28.mono s503.ex
          replace r60 := r60.mono s503.ex
          replace r62 := r62.mono s503.ex
          replace r64 := r64.mono s503.ex
          replace r73 := r73.mono s503.ex
          replace r83 := r83.mono s503.ex
          replace m342 := m342.step s503 nm0
          replace r358 := r358.mono s503.ex
          replace st := st.go s503 go0
          replace sj359 := sj359.go s503 go0
          replace w := s503.ok
          refine h_nil ?_
          obtain ⟨x506, hx507, P⟩ := P.some
          have rc508 := r62
          rw [hx507] at rc508
          replace rc508 : Rep K B501 u61 (enc x506) := rc508
          refine ⟨B501, u61, x506, v504, x500, w, rfl, rc508, r505, (P.bind).mono (fun x509 P => ?_) (fun _ z => z)⟩
          refine fun v513 B510 H511 s512 r514 => ?_
          replace m_state := m_state.step s512 nm0
          replace r28 := r28.mono s512.ex
          replace r60 := r60.mono s512.ex
          replace r62 := r62.mono s512.ex
          replace r64 := r64.mono s512.ex
          replace r73 := r73.mono s512.ex
          replace r83 := r83.mono s512.ex
          replace m342 := m342.step s512 nm0
          replace r358 := r358.mono s512.ex
          replace r505 := r505.mono s512.ex
          replace st := st.go s512 go0
          replace sj359 := sj359.go s512 go0
          replace w := s512.ok
          try dsimp only
          refine h_nrm (σ' := [some ((.ref p_state)), some ((.ref p7)), some (.int x1.1), some (.int x11.1), some (v27), some (u59), some (u61), some (u63), some ((.ref p69)), some ((.ref p79)), some ((.ref p339)), some (v357), some (v513)]) ?_
          refine h_set ?_
          refine h_op ?_
          refine h_var rfl ?_
          refine h_lst ?_
          refine h_cons ?_
          refine h_op ?_
          refine h_op ?_
          refine h_var rfl ?_
          refine h_lst ?_
          refine h_cons ?_
          refine h_tup ?_
          refine h_cons ?_
          refine h_var rfl ?_
          refine h_cons ?_
          refine h_var rfl ?_
          refine h_cons ?_
          refine h_var rfl ?_
          refine h_nil ?_
          refine h_newT w (K := K) (.cons r358 (.cons r62 (.cons r64 .nil))) (fun p515 B516 H517 s518 r519 => ?_) (by show 3 ≤ sizeLine; decide)
          replace m_state := m_state.step s518 nm0
          replace r28 := r28.mono s518.ex
          replace r60 := r60.mono s518.ex
          replace r62 := r62.mono s518.ex
          replace r64 := r64.mono s518.ex
          replace r73 := r73.mono s518.ex
          replace r83 := r83.mono s518.ex
          replace m342 := m342.step s518 nm0
          replace r358 := r358.mono s518.ex
          replace r514 := r514.mono s518.ex
          replace st := st.go s518 go0
          replace sj359 := sj359.go s518 go0
          replace w := s518.ok
          replace r519 : Rep K B516 (.ref p515) (enc (⟨x353, x51.b, x51.c⟩ : (Tp3 (Tp2 Int Int) (Option (Tp2 Int Int)) (Tp2 Int Int)))) := r519
          refine h_cons ?_
          refine h_tup ?_
          refine h_cons ?_
          refine h_var rfl ?_
          refine h_cons ?_
          refine h_var rfl ?_
          refine h_cons ?_
          refine h_var rfl ?_
          refine h_nil ?_
          refine h_newT w (K := K) (.cons r358 (.cons r514 (.cons r64 .nil))) (fun p520 B521 H522 s523 r524 => ?_) (by show 3 ≤ sizeLine; decide)
          replace m_state := m_state.step s523 nm0
          replace r28 := r28.mono s523.ex
          replace r60 := r60.mono s523.ex
          replace r62 := r62.mono s523.ex
          replace r64 := r64.mono s523.ex
          replace r73 := r73.mono s523.ex
          replace r83 := r83.mono s523.ex
          replace m342 := m342.step s523 nm0
          replace r358 := r358.mono s523.ex
          replace r514 := r514.mono s523.ex
          replace r519 := r519.mono s523.ex
          replace st := st.go s523 go0
          replace sj359 := sj359.go s523 go0
          replace w := s523.ok
          replace r524 : Rep K B521 (.ref p520) (enc (⟨x353, x509, x51.c⟩ : (Tp3 (Tp2 Int Int) (Tp2 Int Int) (Tp2 Int Int)))) := r524
          refine h_nil ?_
          refine h_newL w (ds := (([(⟨x353, x51.b, x51.c⟩ : (Tp3 (Tp2 Int Int) (Option (Tp2 Int Int)) (Tp2 Int Int))), (⟨(⟨x353, x509, x51.c⟩ : (Tp3 (Tp2 Int Int) (Tp2 Int Int) (Tp2 Int Int))).a, (some ((⟨x353, x509, x51.c⟩ : (Tp3 (Tp2 Int Int) (Tp2 Int Int) (Tp2 Int Int))).b)), (⟨x353, x509, x51.c⟩ : (Tp3 (Tp2 Int Int) (Tp2 Int Int) (Tp2 Int Int))).c⟩ : (Tp3 (Tp2 Int Int) (Option (Tp2 Int Int)) (Tp2 Int Int)))] : List (Tp3 (Tp2 Int Int) (Option (Tp2 Int Int)) (Tp2 Int Int)))).map enc) (K := K) (.cons r519 (.cons r524 .nil)) (fun p525 B526 H527 s528 r529 => ?_) (by show 2 ≤ sizeLine; decide)
          replace m_state := m_state.step s528 nm0
          replace r28 := r28.mono s528.ex
          replace r60 := r60.mono s528.ex
          replace r62 := r62.mono s528.ex
          replace r64 := r64.mono s528.ex
          replace r73 := r73.mono s528.ex
          replace r83 := r83.mono s528.ex
          replace m342 := m342.step s528 nm0
          replace r358 := r358.mono s528.ex
          replace r514 := r514.mono s528.ex
          replace st := st.go s528 go0
          replace sj359 := sj359.go s528 go0
          replace w := s528.ok
          replace r529 : Rep K B526 (.ref p525) (enc ([(⟨x353, x51.b, x51.c⟩ : (Tp3 (Tp2 Int Int) (Option (Tp2 Int Int)) (Tp2 Int Int))), (⟨(⟨x353, x509, x51.c⟩ : (Tp3 (Tp2 Int Int) (Tp2 Int Int) (Tp2 Int Int))).a, (some ((⟨x353, x509, x51.c⟩ : (Tp3 (Tp2 Int Int) (Tp2 Int Int) (Tp2 Int Int))).b)), (⟨x353, x509, x51.c⟩ : (Tp3 (Tp2 Int Int) (Tp2 Int Int) (Tp2 Int Int))).c⟩ : (Tp3 (Tp2 Int Int) (Option (Tp2 Int Int)) (Tp2 Int Int)))] : List (Tp3 (Tp2 Int Int) (Option (Tp2 Int Int)) (Tp2 Int Int)))) := r529
          replace P := P.lt
          generalize hx : (([(⟨x353, x51.b, x51.c⟩ : (Tp3 (Tp2 Int Int) (Option (Tp2 Int Int)) (Tp2 Int Int))), (⟨(⟨x353, x509, x51.c⟩ : (Tp3 (Tp2 Int Int) (Tp2 Int Int) (Tp2 Int Int))).a, (some ((⟨x353, x509, x51.c⟩ : (Tp3 (Tp2 Int Int) (Tp2 Int Int) (Tp2 Int Int))).b)), (⟨x353, x509, x51.c⟩ : (Tp3 (Tp2 Int Int) (Tp2 Int Int) (Tp2 Int Int))).c⟩ : (Tp3 (Tp2 Int Int) (Option (Tp2 Int Int)) (Tp2 Int Int)))] : List (Tp3 (Tp2 Int Int) (Option (Tp2 Int Int)) (Tp2 Int Int))) : (List (Tp3 (Tp2 Int Int) (Option (Tp2 Int Int)) (Tp2 Int Int)))) = x530 at P r529 ⊢
          obtain ⟨p531, xs532, hv, hs533, hr534⟩ := Rep.sq w r73
          cases hv
          obtain ⟨p535, xs536, hv, hs537, hr538⟩ := Rep.sq w r529
          cases hv
          obtain ⟨gd, P⟩ := P.guard
          refine h_cat hs533 hs537 (by have g := gd; simp only [hr534.length, hr538.length, List.length_map] at g ⊢; exact Nat.le_trans g (by decide)) ?_
          refine h_nwL w (ds := ((x74 ++ x530)).map enc) (K := K) (RepL.cat hr534 hr538) (fun p539 B540 H541 s542 r543 => ?_) 
          replace m_state := m_state.step s542 nm0
          replace r28 := r28.mono s542.ex
          replace r60 := r60.mono s542.ex
          replace r62 := r62.mono s542.ex
          replace r64 := r64.mono s542.ex
          replace r73 := r73.mono s542.ex
          replace r83 := r83.mono s542.ex
          replace m342 := m342.step s542 nm0
          replace r358 := r358.mono s542.ex
          replace r514 := r514.mono s542.ex
          replace st := st.go s542 go0
          replace sj359 := sj359.go s542 go0
          replace w := s542.ok
          replace r543 : Rep K B540 (.ref p539) (enc (x74 ++ x530)) := r543
          refine h_var rfl ?_
          obtain ⟨p544, xs545, hv, hs546, hr547⟩ := Rep.sq w r543
          cases hv
          obtain ⟨p548, xs549, hv, hs550, hr551⟩ := Rep.sq w r83
          cases hv
          obtain ⟨gd, P⟩ := P.guard
          refine h_cat hs546 hs550 (by have g := gd; simp only [hr547.length, hr551.length, List.length_map] at g ⊢; exact Nat.le_trans g (by decide)) ?_
          refine h_nwL w (ds := (((x74 ++ x530) ++ x84)).map enc) (K := K) (RepL.cat hr547 hr551) (fun p552 B553 H554 s555 r556 => ?_) 
          replace m_state := m_state.step s555 nm0
          replace r28 := r28.mono s555.ex
          replace r60 := r60.mono s555.ex
          replace r62 := r62.mono s555.ex
          replace r64 := r64.mono s555.ex
          replace r73 := r73.mono s555.ex
          replace r83 := r83.mono s555.ex
          replace m342 := m342.step s555 nm0
          replace r358 := r358.mono s555.ex
          replace r514 := r514.mono s555.ex
          replace st := st.go s555 go0
          replace sj359 := sj359.go s555 go0
          replace w := s555.ok
          replace r556 : Rep K B553 (.ref p552) (enc ((x74 ++ x530) ++ x84)) := r556
          replace P := P.lt
          generalize hx : (((x74 ++ x530) ++ x84) : (List (Tp3 (Tp2 Int Int) (Option (Tp2 Int Int)) (Tp2 Int Int)))) = x557 at P r556 ⊢
          refine h_nil ?_
          refine h_newL w (ds := (([x557] : List (List (Tp3 (Tp2 Int Int) (Option (Tp2 Int Int)) (Tp2 Int Int))))).map enc) (K := K) (.cons r556 .nil) (fun p558 B559 H560 s561 r562 => ?_) (by show 1 ≤ sizeLine; decide)
          replace m_state := m_state.step s561 nm0
          replace r28 := r28.mono s561.ex
          replace r60 := r60.mono s561.ex
          replace r62 := r62.mono s561.ex
          replace r64 := r64.mono s561.ex
          replace r73 := r73.mono s561.ex
          replace r83 := r83.mono s561.ex
          replace m342 := m342.step s561 nm0
          replace r358 := r358.mono s561.ex
          replace r514 := r514.mono s561.ex
          replace st := st.go s561 go0
          replace sj359 := sj359.go s561 go0
          replace w := s561.ok
          replace r562 : Rep K B559 (.ref p558) (enc ([x557] : List (List (Tp3 (Tp2 Int Int) (Option (Tp2 Int Int)) (Tp2 Int Int))))) := r562
          replace P := P.lt
          generalize hx : (([x557] : List (List (Tp3 (Tp2 Int Int) (Option (Tp2 Int Int)) (Tp2 Int Int)))) : (List (List (Tp3 (Tp2 Int Int) (Option (Tp2 Int Int)) (Tp2 Int Int))))) = x563 at P r562 ⊢
          obtain ⟨xs565, hv, hs566, hr567⟩ := Mu.sq m342
          obtain ⟨p568, xs569, hv, hs570, hr571⟩ := Rep.sq w r562
          cases hv
          obtain ⟨gd, P⟩ := P.guard
          refine h_cat hs566 hs570 (by have g := gd; simp only [hr567.length, hr571.length, List.length_map] at g ⊢; exact Nat.le_trans g (by decide)) ?_
          refine h_nwM w (ds := ((x347 ++ x563)).map enc) (K := K) (RepL.cat hr567 hr571) (fun p572 H573 hn576 s574 m575 => ?_) 
          have n577 := st.nn hn576
          have n578 := sj359.nn hn576
          have ne579 := Mu.ne m_state hn576
          have ne580 := Mu.ne m342 hn576
          replace m_state := m_state.step s574 nm0
          replace r28 := r28.mono s574.ex
          replace r60 := r60.mono s574.ex
          replace r62 := r62.mono s574.ex
          replace r64 := r64.mono s574.ex
          replace r73 := r73.mono s574.ex
          replace r83 := r83.mono s574.ex
          replace m342 := m342.step s574 nm0
          replace r358 := r358.mono s574.ex
          replace r514 := r514.mono s574.ex
          replace st := st.go s574 go0
          replace sj359 := sj359.go s574 go0
          replace w := s574.ok
          try dsimp only
          refine h_nrm (σ' := [some ((.ref p_state)), some ((.ref p7)), some (.int x1.1), some (.int x11.1), some (v27), some (u59), some (u61), some (u63), some ((.ref p69)), some ((.ref p79)), some ((.ref p572)), some (v357), some (v513)]) ?_
          refine h_seq ?_
          refine h_asg ?_
          refine h_op ?_
          refine h_op ?_
          refine h_var rfl ?_
          refine h_lst ?_
          refine h_cons ?_
          refine h_tup ?_
          refine h_cons ?_
          refine h_var rfl ?_
          refine h_cons ?_
          refine h_call ?_
          refine h_cons ?_
          refine h_var rfl ?_
          refine h_cons ?_
          refine h_var rfl ?_
          refine h_nil ?_
          obtain ⟨x581, hx582, P⟩ := P.some
          have rc583 := r62
          rw [hx582] at rc583
          replace rc583 : Rep K B559 u61 (enc x581) := rc583
          refine ⟨B559, u61, x581, v27, x23, w, rfl, rc583, r28, (P.bind).mono (fun x584 P => ?_) (fun _ z => z)⟩
          refine fun v588 B585 H586 s587 r589 => ?_
          replace m_state := m_state.step s587 nm0
          replace r28 := r28.mono s587.ex
          replace r60 := r60.mono s587.ex
          replace r62 := r62.mono s587.ex
          replace r64 := r64.mono s587.ex
          replace r73 := r73.mono s587.ex
          replace r83 := r83.mono s587.ex
          replace m575 := m575.step s587 nm0
          replace r358 := r358.mono s587.ex
          replace r514 := r514.mono s587.ex
          replace st := st.go s587 go0
          replace sj359 := sj359.go s587 go0
          replace w := s587.ok
          refine h_cons ?_
          refine h_var rfl ?_
          refine h_nil ?_
          refine h_newT w (K := K) (.cons r60 (.cons r589 (.cons r64 .nil))) (fun p590 B591 H592 s593 r594 => ?_) (by show 3 ≤ sizeLine; decide)
          replace m_state := m_state.step s593 nm0
          replace r28 := r28.mono s593.ex
          replace r60 := r60.mono s593.ex
          replace r62 := r62.mono s593.ex
          replace r64 := r64.mono s593.ex
          replace r73 := r73.mono s593.ex
          replace r83 := r83.mono s593.ex
          replace m575 := m575.step s593 nm0
          replace r358 := r358.mono s593.ex
          replace r514 := r514.mono s593.ex
          replace st := st.go s593 go0
          replace sj359 := sj359.go s593 go0
          replace w := s593.ok
          replace r594 : Rep K B591 (.ref p590) (enc (⟨x51.a, x584, x51.c⟩ : (Tp3 (Tp2 Int Int) (Tp2 Int Int) (Tp2 Int Int)))) := r594
          refine h_nil ?_
          refine h_newL w (ds := (([(⟨(⟨x51.a, x584, x51.c⟩ : (Tp3 (Tp2 Int Int) (Tp2 Int Int) (Tp2 Int Int))).a, (some ((⟨x51.a, x584, x51.c⟩ : (Tp3 (Tp2 Int Int) (Tp2 Int Int) (Tp2 Int Int))).b)), (⟨x51.a, x584, x51.c⟩ : (Tp3 (Tp2 Int Int) (Tp2 Int Int) (Tp2 Int Int))).c⟩ : (Tp3 (Tp2 Int Int) (Option (Tp2 Int Int)) (Tp2 Int Int)))] : List (Tp3 (Tp2 Int Int) (Option (Tp2 Int Int)) (Tp2 Int Int)))).map enc) (K := K) (.cons r594 .nil) (fun p595 B596 H597 s598 r599 => ?_) (by show 1 ≤ sizeLine; decide)
          replace m_state := m_state.step s598 nm0
          replace r28 := r28.mono s598.ex
          replace r60 := r60.mono s598.ex
          replace r62 := r62.mono s598.ex
          replace r64 := r64.mono s598.ex
          replace r73 := r73.mono s598.ex
          replace r83 := r83.mono s598.ex
          replace m575 := m575.step s598 nm0
          replace r358 := r358.mono s598.ex
          replace r514 := r514.mono s598.ex
          replace st := st.go s598 go0
          replace sj359 := sj359.go s598 go0
          replace w := s598.ok
          replace r599 : Rep K B596 (.ref p595) (enc ([(⟨(⟨x51.a, x584, x51.c⟩ : (Tp3 (Tp2 Int Int) (Tp2 Int Int) (Tp2 Int Int))).a, (some ((⟨x51.a, x584, x51.c⟩ : (Tp3 (Tp2 Int Int) (Tp2 Int Int) (Tp2 Int Int))).b)), (⟨x51.a, x584, x51.c⟩ : (Tp3 (Tp2 Int Int) (Tp2 Int Int) (Tp2 Int Int))).c⟩ : (Tp3 (Tp2 Int Int) (Option (Tp2 Int Int)) (Tp2 Int Int)))] : List (Tp3 (Tp2 Int Int) (Option (Tp2 Int Int)) (Tp2 Int Int)))) := r599
          replace P := P.lt
          generalize hx : (([(⟨(⟨x51.a, x584, x51.c⟩ : (Tp3 (Tp2 Int Int) (Tp2 Int Int) (Tp2 Int Int))).a, (some ((⟨x51.a, x584, x51.c⟩ : (Tp3 (Tp2 Int Int) (Tp2 Int Int) (Tp2 Int Int))).b)), (⟨x51.a, x584, x51.c⟩ : (Tp3 (Tp2 Int Int) (Tp2 Int Int) (Tp2 Int Int))).c⟩ : (Tp3 (Tp2 Int Int) (Option (Tp2 Int Int)) (Tp2 Int Int)))] : List (Tp3 (Tp2 Int Int) (Option (Tp2 Int Int)) (Tp2 Int Int))) : (List (Tp3 (Tp2 Int Int) (Option (Tp2 Int Int)) (Tp2 Int Int)))) = x600 at P r599 ⊢
          obtain ⟨p601, xs602, hv, hs603, hr604⟩ := Rep.sq w r73
          cases hv
          obtain ⟨p605, xs606, hv, hs607, hr608⟩ := Rep.sq w r599
          cases hv
          obtain ⟨gd, P⟩ := P.guard
          refine h_cat hs603 hs607 (by have g := gd; simp only [hr604.length, hr608.length, List.length_map] at g ⊢; exact Nat.le_trans g (by decide)) ?_
          refine h_nwL w (ds := ((x74 ++ x600)).map enc) (K := K) (RepL.cat hr604 hr608) (fun p609 B610 H611 s612 r613 => ?_) 
          replace m_state := m_state.step s612 nm0
          replace r28 := r28.mono s612.ex
          replace r60 := r60.mono s612.ex
          replace r62 := r62.mono s612.ex
          replace r64 := r64.mono s612.ex
          replace r73 := r73.mono s612.ex
          replace r83 := r83.mono s612.ex
          replace m575 := m575.step s612 nm0
          replace r358 := r358.mono s612.ex
          replace r514 := r514.mono s612.ex
          replace st := st.go s612 go0
          replace sj359 := sj359.go s612 go0
          replace w := s612.ok
          replace r613 : Rep K B610 (.ref p609) (enc (x74 ++ x600)) := r613
          refine h_var rfl ?_
          obtain ⟨p614, xs615, hv, hs616, hr617⟩ := Rep.sq w r613
          cases hv
          obtain ⟨p618, xs619, hv, hs620, hr621⟩ := Rep.sq w r83
          cases hv
          obtain ⟨gd, P⟩ := P.guard
          refine h_cat hs616 hs620 (by have g := gd; simp only [hr617.length, hr621.length, List.length_map] at g ⊢; exact Nat.le_trans g (by decide)) ?_
          refine h_nwL w (ds := (((x74 ++ x600) ++ x84)).map enc) (K := K) (RepL.cat hr617 hr621) (fun p622 B623 H624 s625 r626 => ?_) 
          replace m_state := m_state.step s625 nm0
          replace r28 := r28.mono s625.ex
          replace r60 := r60.mono s625.ex
          replace r62 := r62.mono s625.ex
          replace r64 := r64.mono s625.ex
          replace r73 := r73.mono s625.ex
          replace r83 := r83.mono s625.ex
          replace m575 := m575.step s625 nm0
          replace r358 := r358.mono s625.ex
          replace r514 := r514.mono s625.ex
          replace st := st.go s625 go0
          replace sj359 := sj359.go s625 go0
          replace w := s625.ok
          replace r626 : Rep K B623 (.ref p622) (enc ((x74 ++ x600) ++ x84)) := r626
          replace P := P.lt
          generalize hx : (((x74 ++ x600) ++ x84) : (List (Tp3 (Tp2 Int Int) (Option (Tp2 Int Int)) (Tp2 Int Int)))) = x627 at P r626 ⊢
          refine h_sub ?_
          refine h_var rfl ?_
          refine h_c ?_
          obtain ⟨j629, hj630, P⟩ := P.set
          refine h_setL (b := x627) w m575 r626 hj630 (fun H631 s632 m575 => ?_)
          replace m_state := m_state.step s632 (nm1 ne579)
          replace r28 := r28.mono s632.ex
          replace r60 := r60.mono s632.ex
          replace r62 := r62.mono s632.ex
          replace r64 := r64.mono s632.ex
          replace r73 := r73.mono s632.ex
          replace r83 := r83.mono s632.ex
          replace r358 := r358.mono s632.ex
          replace r514 := r514.mono s632.ex
          replace st := st.go s632 (go1 (.inr n577))
          replace sj359 := sj359.go s632 (go1 (.inr n578))
          replace w := s632.ok
          generalize hl : List.set (x347 ++ x563) j629 x627 = x628 at *
          refine h_nx ?_
          refine h_set1 ?_
          refine h_op ?_
          refine h_var rfl ?_
          refine h_lst ?_
          refine h_cons ?_
          refine h_op ?_
          refine h_op ?_
          refine h_var rfl ?_
          refine h_lst ?_
          refine h_cons ?_
          refine h_tup ?_
          refine h_cons ?_
          refine h_var rfl ?_
          refine h_cons ?_
          refine h_var rfl ?_
          refine h_cons ?_
          refine h_call ?_
          refine h_cons ?_
          refine h_var rfl ?_
          refine h_cons ?_
          refine h_var rfl ?_
          refine h_nil ?_
          refine ⟨B623, u63, x51.c, v27, x23, w, rfl, r64, r28, (P.bind).mono (fun x633 P => ?_) (fun _ z => z)⟩
          refine fun v637 B634 H635 s636 r638 => ?_
          replace m_state := m_state.step s636 nm0
          replace r28 := r28.mono s636.ex
          replace r60 := r60.mono s636.ex
          replace r62 := r62.mono s636.ex
          replace r64 := r64.mono s636.ex
          replace r73 := r73.mono s636.ex
          replace r83 := r83.mono s636.ex
          replace m575 := m575.step s636 nm0
          replace r358 := r358.mono s636.ex
          replace r514 := r514.mono s636.ex
          replace st := st.go s636 go0
          replace sj359 := sj359.go s636 go0
          replace w := s636.ok
          refine h_nil ?_
          refine h_newT w (K := K) (.cons r60 (.cons r62 (.cons r638 .nil))) (fun p639 B640 H641 s642 r643 => ?_) (by show 3 ≤ sizeLine; decide)
          replace m_state := m_state.step s642 nm0
          replace r28 := r28.mono s642.ex
          replace r60 := r60.mono s642.ex
          replace r62 := r62.mono s642.ex
          replace r64 := r64.mono s642.ex
          replace r73 := r73.mono s642.ex
          replace r83 := r83.mono s642.ex
          replace m575 := m575.step s642 nm0
          replace r358 := r358.mono s642.ex
          replace r514 := r514.mono s642.ex
          replace st := st.go s642 go0
          replace sj359 := sj359.go s642 go0
          replace w := s642.ok
          replace r643 : Rep K B640 (.ref p639) (enc (⟨x51.a, x51.b, x633⟩ : (Tp3 (Tp2 Int Int) (Option (Tp2 Int Int)) (Tp2 Int Int)))) := r643
          refine h_nil ?_
          refine h_newL w (ds := (([(⟨x51.a, x51.b, x633⟩ : (Tp3 (Tp2 Int Int) (Option (Tp2 Int Int)) (Tp2 Int Int)))] : List (Tp3 (Tp2 Int Int) (Option (Tp2 Int Int)) (Tp2 Int Int)))).map enc) (K := K) (.cons r643 .nil) (fun p644 B645 H646 s647 r648 => ?_) (by show 1 ≤ sizeLine; decide)
          replace m_state := m_state.step s647 nm0
          replace r28 := r28.mono s647.ex
          replace r60 := r60.mono s647.ex
          replace r62 := r62.mono s647.ex
          replace r64 := r64.mono s647.ex
          replace r73 := r73.mono s647.ex
          replace r83 := r83.mono s647.ex
          replace m575 := m575.step s647 nm0
          replace r358 := r358.mono s647.ex
          replace r514 := r514.mono s647.ex
          replace st := st.go s647 go0
          replace sj359 := sj359.go s647 go0
          replace w := s647.ok
          replace r648 : Rep K B645 (.ref p644) (enc ([(⟨x51.a, x51.b, x633⟩ : (Tp3 (Tp2 Int Int) (Option (Tp2 Int Int)) (Tp2 Int Int)))] : List (Tp3 (Tp2 Int Int) (Option (Tp2 Int Int)) (Tp2 Int Int)))) := r648
          replace P := P.lt
          generalize hx : (([(⟨x51.a, x51.b, x633⟩ : (Tp3 (Tp2 Int Int) (Option (Tp2 Int Int)) (Tp2 Int Int)))] : List (Tp3 (Tp2 Int Int) (Option (Tp2 Int Int)) (Tp2 Int Int))) : (List (Tp3 (Tp2 Int Int) (Option (Tp2 Int Int)) (Tp2 Int Int)))) = x649 at P r648 ⊢
          obtain ⟨p650, xs651, hv, hs652, hr653⟩ := Rep.sq w r73
          cases hv
          obtain ⟨p654, xs655, hv, hs656, hr657⟩ := Rep.sq w r648
          cases hv
          obtain ⟨gd, P⟩ := P.guard
          refine h_cat hs652 hs656 (by have g := gd; simp only [hr653.length, hr657.length, List.length_map] at g ⊢; exact Nat.le_trans g (by decide)) ?_
          refine h_nwL w (ds := ((x74 ++ x649)).map enc) (K := K) (RepL.cat hr653 hr657) (fun p658 B659 H660 s661 r662 => ?_) 
          replace m_state := m_state.step s661 nm0
          replace r28 := r28.mono s661.ex
          replace r60 := r60.mono s661.ex
          replace r62 := r62.mono s661.ex
          replace r64 := r64.mono s661.ex
          replace r73 := r73.mono s661.ex
          replace r83 := r83.mono s661.ex
          replace m575 := m575.step s661 nm0
          replace r358 := r358.mono s661.ex
          replace r514 := r514.mono s661.ex
          replace st := st.go s661 go0
          replace sj359 := sj359.go s661 go0
          replace w := s661.ok
          replace r662 : Rep K B659 (.ref p658) (enc (x74 ++ x649)) := r662
          refine h_var rfl ?_
          obtain ⟨p663, xs664, hv, hs665, hr666⟩ := Rep.sq w r662
          cases hv
          obtain ⟨p667, xs668, hv, hs669, hr670⟩ := Rep.sq w r83
          cases hv
          obtain ⟨gd, P⟩ := P.guard
          refine h_cat hs665 hs669 (by have g := gd; simp only [hr666.length, hr670.length, List.length_map] at g ⊢; exact Nat.le_trans g (by decide)) ?_
          refine h_nwL w (ds := (((x74 ++ x649) ++ x84)).map enc) (K := K) (RepL.cat hr666 hr670) (fun p671 B672 H673 s674 r675 => ?_) 
          replace m_state := m_state.step s674 nm0
          replace r28 := r28.mono s674.ex
          replace r60 := r60.mono s674.ex
          replace r62 := r62.mono s674.ex
          replace r64 := r64.mono s674.ex
          replace r73 := r73.mono s674.ex
          replace r83 := r83.mono s674.ex
          replace m575 := m575.step s674 nm0
          replace r358 := r358.mono s674.ex
          replace r514 := r514.mono s674.ex
          replace st := st.go s674 go0
          replace sj359 := sj359.go s674 go0
          replace w := s674.ok
          replace r675 : Rep K B672 (.ref p671) (enc ((x74 ++ x649) ++ x84)) := r675
          replace P := P.lt
          generalize hx : (((x74 ++ x649) ++ x84) : (List (Tp3 (Tp2 Int Int) (Option (Tp2 Int Int)) (Tp2 Int Int)))) = x676 at P r675 ⊢
          refine h_nil ?_
          refine h_newL w (ds := (([x676] : List (List (Tp3 (Tp2 Int Int) (Option (Tp2 Int Int)) (Tp2 Int Int))))).map enc) (K := K) (.cons r675 .nil) (fun p677 B678 H679 s680 r681 => ?_) (by show 1 ≤ sizeLine; decide)
          replace m_state := m_state.step s680 nm0
          replace r28 := r28.mono s680.ex
          replace r60 := r60.mono s680.ex
          replace r62 := r62.mono s680.ex
          replace r64 := r64.mono s680.ex
          replace r73 := r73.mono s680.ex
          replace r83 := r83.mono s680.ex
          replace m575 := m575.step s680 nm0
          replace r358 := r358.mono s680.ex
          replace r514 := r514.mono s680.ex
          replace st := st.go s680 go0
          replace sj359 := sj359.go s680 go0
          replace w := s680.ok
          replace r681 : Rep K B678 (.ref p677) (enc ([x676] : List (List (Tp3 (Tp2 Int Int) (Option (Tp2 Int Int)) (Tp2 Int Int))))) := r681
          replace P := P.lt
          generalize hx : (([x676] : List (List (Tp3 (Tp2 Int Int) (Option (Tp2 Int Int)) (Tp2 Int Int)))) : (List (List (Tp3 (Tp2 Int Int) (Option (Tp2 Int Int)) (Tp2 Int Int))))) = x682 at P r681 ⊢
          obtain ⟨xs684, hv, hs685, hr686⟩ := Mu.sq m575
          obtain ⟨p687, xs688, hv, hs689, hr690⟩ := Rep.sq w r681
          cases hv
          obtain ⟨gd, P⟩ := P.guard
          refine h_cat hs685 hs689 (by have g := gd; simp only [hr686.length, hr690.length, List.length_map] at g ⊢; exact Nat.le_trans g (by decide)) ?_
          refine h_nwM w (ds := ((x628 ++ x682)).map enc) (K := K) (RepL.cat hr686 hr690) (fun p691 H692 hn695 s693 m694 => ?_) 
          have n696 := st.nn hn695
          have n697 := sj359.nn hn695
          have ne698 := Mu.ne m_state hn695
          have ne699 := Mu.ne m575 hn695
          replace m_state := m_state.step s693 nm0
          replace r28 := r28.mono s693.ex
          replace r60 := r60.mono s693.ex
          replace r62 := r62.mono s693.ex
          replace r64 := r64.mono s693.ex
          replace r73 := r73.mono s693.ex
          replace r83 := r83.mono s693.ex
          replace m575 := m575.step s693 nm0
          replace r358 := r358.mono s693.ex
          replace r514 := r514.mono s693.ex
          replace st := st.go s693 go0
          replace sj359 := sj359.go s693 go0
          replace w := s693.ok
          refine h_nx ?_
          obtain ⟨B704, e700, k701, g702, r703⟩ := Mu.keep m694
          replace st := g702 _ _ _ st w0 n696
          replace sj359 := g702 _ _ _ sj359 wj360 n697
          replace m_state := m_state.kp e700 k701 ne698
          replace r28 := r28.mono e700
          replace r60 := r60.mono e700
          replace r62 := r62.mono e700
          replace r64 := r64.mono e700
          replace r73 := r73.mono e700
          replace r83 := r83.mono e700
          replace r358 := r358.mono e700
          replace r514 := r514.mono e700
          replace w := st.ok
          replace r703 : Rep K B704 (.ref p691) (enc (x628 ++ x682)) := r703
          exact kk361 (x628 ++ x682) _ _ ⟨_, (.ref p691), _, sj359, rfl, r703⟩ P.ok
      rintro a705 _ H707 ⟨B706, v709, o711, s708, rfl, r710⟩ P
      replace m_state := m_state.step s708 nm0
      replace r28 := r28.mono s708.ex
      replace r60 := r60.mono s708.ex
      replace r62 := r62.mono s708.ex
      replace r64 := r64.mono s708.ex
      replace r73 := r73.mono s708.ex
      replace r83 := r83.mono s708.ex
      replace r358 := r358.mono s708.ex
      replace st := st.go s708 go0
      replace w := s708.ok
      refine h_ret ?_
      refine h_op ?_
      refine h_var rfl ?_
      refine h_var rfl ?_
      obtain ⟨p712, xs713, rfl, hs714, hr715⟩ := Rep.sq w r710
      obtain ⟨x716, hx717, P⟩ := P.ix
      obtain ⟨u718, hu, r719⟩ := RepL.atE hr715 hx717
      refine h_ixL hs714 hu ?_
      exact P.ok _ _ _ st m_state r719
theorem ok__law_borders {f : Addr} {fd : FuncData}  (F : Fun K "_law_borders" "_law_borders" s__law_borders f fd) {f__law_plus : Addr} {d__law_plus : FuncData} (g__law_plus : mg "_law_plus" = some (.ref f__law_plus)) (k__law_plus : PySem.W.keepIn K (.ref f__law_plus) = true) (b__law_plus : L2.Binds K d__law_plus ["_law_left", "_law_right_here"] []) (G__law_plus : FnOk Pr wo K mg base CX0 3 f__law_plus d__law_plus ["_law_left", "_law_right_here"] (sp__law_plus K)) : FnOk Pr wo K mg base CX0 4 f fd ["_law_edits_here"] (sp__law_borders K) := by
  refine F.ok sc__law_borders (fun vs H Q E h => ?_) (fun cdv A outer s H0 vs Q E hr h => ?_)
  · obtain ⟨_, _, _, _, rfl, _⟩ := h; rfl
  · obtain ⟨B0, v_edits_here, a_edits_here, w, rfl, r_edits_here, P⟩ := h
    have w0 := w
    have hu := hu_of hr
    have hu64 := hu64_of hr
    have hr3 : Room 3 _ := hr.mono (by decide)
    refine ⟨_, (pss_cons (ps_set (i := 1) sc__law_borders.nd rfl (by first | exact Or.inl rfl | exact Or.inr rfl) (pe_lst (pa_cons (pe_tup (pa_cons pe_int (pa_cons pe_int pa_nil))) pa_nil)))
      (pss_cons (ps_for PassesOwn.never rfl (pi_list (pv 0)) (pg_tupK (K := K) (n := 3) rfl rfl (pgs_cons (pg_name (i := 2) sc__law_borders.nd rfl (by first | exact Or.inl rfl | exact Or.inr rfl)) (pgs_cons (pg_name (i := 3) sc__law_borders.nd rfl (by first | exact Or.inl rfl | exact Or.inr rfl)) (pgs_cons (pg_name (i := 4) sc__law_borders.nd rfl (by first | exact Or.inl rfl | exact Or.inr rfl)) pgs_nil)))) (pss_one (ps_expr (pe_bm PySem.F.plainAttrs_list PySem.F.slot_list_append PySem.F.type_list_append mt_append (pv 1) (pa_cons (pe_call G__law_plus hr3 rfl g__law_plus k__law_plus b__law_plus .nil pass0 (pa_cons (pe_ix (r := rIxL K) ix_list (pv 1) (pe_un un_neg pe_int) (fun _ _ => rfl)) (pa_cons (pv 2) pa_nil))) pa_nil)))))
      (pss_one (ps_ret (pv 1))))), ?_⟩
    unfold l_borders at P
    have st := Stp.refl (W := []) w
    refine h_set ?_
    refine h_lst ?_
    refine h_cons ?_
    refine h_tup ?_
    refine h_cons ?_
    refine h_c ?_
    refine h_cons ?_
    refine h_c ?_
    refine h_nil ?_
    refine h_newT w (K := K) (.cons (Rep.int _) (.cons (Rep.int _) .nil)) (fun p1 B2 H3 s4 r5 => ?_) (by show 2 ≤ sizeLine; decide)
    replace st := st.go s4 go0
    replace w := s4.ok
    replace r5 : Rep K B2 (.ref p1) (enc (⟨0, 1⟩ : (Tp2 Int Int))) := r5
    refine h_nil ?_
    refine h_newM w (ds := (([(⟨0, 1⟩ : (Tp2 Int Int))] : List (Tp2 Int Int))).map enc) (K := K) (.cons r5 .nil) (fun p6 H7 hn10 s8 m9 => ?_) (by show 1 ≤ sizeLine; decide)
    have n11 := st.nn hn10
    replace st := st.go s8 go0
    replace w := s8.ok
    refine h_seq ?_
    refine h_forE ?_
    refine h_var rfl ?_
    obtain ⟨p12, xs13, rfl, hr15, hb14⟩ := Bor.sq0 r_edits_here
    have wj17 := w
    have sj16 := Stp.refl (W := [p6]) w
    refine h_forL P (hb14 _ _ st) (hr15.mono st.ex) (fun (a : (List (Tp2 Int Int))) σ' H' => ∃ (B' : Hp) (o__law_span : Option V) (o__law_start : Option V) (o__law_rate : Option V), Stp [p6] B2 H7 B' H' ∧ σ' = [some ((.ref p12)), some ((.ref p6)), o__law_span, o__law_start, o__law_rate] ∧ Mu K B' H' p6 (a.map enc)) ⟨_, _, _, _, sj16, rfl, m9⟩ (fun _ _ _ j => ?_) ?_ ?_
    · obtain ⟨B27, o30, o31, o32, s29, rfl, m9⟩ := j
      exact hb14 _ _ (st.go s29 (go1 (.inr n11)))
    · rintro N18 T19 x24 v25 a23 _ H28 ⟨B27, o30, o31, o32, s29, rfl, m9⟩ r26 kk20 kr21 kb22 P
      replace st := st.go s29 (go1 (.inr n11))
      replace w := s29.ok
      have sj16 := s29
      replace r26 := r26.mono sj16.ex
      obtain ⟨p33, xs34, rfl, hs35, hr36⟩ := Rep.st w r26
      obtain ⟨u37, u39, u41, rfl, r38, r40, r42⟩ := RepL.open3 hr36
      refine h_tupG hs35 rfl ?_
      refine h_gcons ?_
      refine h_gname ?_
      refine h_gcons ?_
      refine h_gname ?_
      refine h_gcons ?_
      refine h_gname ?_
      refine h_gnil ?_
      refine h_drop ?_
      refine h_bm ?_
      refine h_var rfl ?_
      refine h_bmL m9 ?_
      refine h_cons ?_
      refine h_call ?_
      refine h_cons ?_
      refine h_op ?_
      refine h_var rfl ?_
      refine h_un ?_
      refine h_c ?_
      refine h_U ?_
      obtain ⟨xs44, hv, hs45, hr46⟩ := Mu.sq m9
      obtain ⟨x47, hx48, P⟩ := P.ix
      obtain ⟨u49, hu, r50⟩ := RepL.atE hr46 hx48
      refine h_ixL hs45 hu ?_
      refine h_cons ?_
      refine h_var rfl ?_
      refine h_nil ?_
      refine ⟨B27, u49, x47, u37, x24.a, w, rfl, r50, r38, (P.bind).mono (fun x51 P => ?_) (fun _ z => z)⟩
      refine fun v55 B52 H53 s54 r56 => ?_
      replace m9 := m9.step s54 nm0
      replace r38 := r38.mono s54.ex
      replace r40 := r40.mono s54.ex
      replace r42 := r42.mono s54.ex
      replace r50 := r50.mono s54.ex
      replace st := st.go s54 go0
      replace sj16 := sj16.go s54 go0
      replace w := s54.ok
      refine h_nil ?_
      obtain ⟨gd, P⟩ := P.guard
      refine h_append (b := x51) w m9 r56 gd (fun H57 s58 m9 => ?_)
      replace r38 := r38.mono s58.ex
      replace r40 := r40.mono s58.ex
      replace r42 := r42.mono s58.ex
      replace st := st.go s58 (go1 (.inr n11))
      replace sj16 := sj16.go s58 (go1 (.inl (by simp)))
      replace w := s58.ok
      refine h_nx ?_
      exact kk20 (a23 ++ [x51]) _ _ ⟨_, _, _, _, sj16, rfl, m9⟩ P.ok
    · rintro a59 _ H61 ⟨B60, o63, o64, o65, s62, rfl, m9⟩ P
      replace st := st.go s62 (go1 (.inr n11))
      replace w := s62.ok
      refine h_nx ?_
      refine h_ret ?_
      refine h_var rfl ?_
      obtain ⟨B70, e66, k67, g68, r69⟩ := Mu.keep m9
      replace st := g68 _ _ _ st w0 n11
      replace w := st.ok
      replace r69 : Rep K B70 (.ref p6) (enc a59) := r69
      exact P.ok _ _ _ st r69
theorem ok__law_ranked {f : Addr} {fd : FuncData}  (F : Fun K "_law_ranked" "_law_ranked" s__law_ranked f fd) {f__law_less : Addr} {d__law_less : FuncData} (g__law_less : mg "_law_less" = some (.ref f__law_less)) (k__law_less : PySem.W.keepIn K (.ref f__law_less) = true) (b__law_less : L2.Binds K d__law_less ["_law_left", "_law_right_here"] []) (G__law_less : FnOk Pr wo K mg base CX0 1 f__law_less d__law_less ["_law_left", "_law_right_here"] (sp__law_less K)) (bI_len : mg "len" = none) : FnOk Pr wo K mg base CX0 2 f fd ["_law_found", "_law_moment"] (sp__law_ranked K) := by
  refine F.ok sc__law_ranked (fun vs H Q E h => ?_) (fun cdv A outer s H0 vs Q E hr h => ?_)
  · obtain ⟨_, _, _, _, _, _, rfl, _⟩ := h; rfl
  · obtain ⟨B0, p_found, a_found, v_moment, a_moment, w, rfl, m_found, r_moment, P⟩ := h
    have w0 := w
    have hu := hu_of hr
    have hu64 := hu64_of hr
    have hr1 : Room 1 _ := hr.mono (by decide)
    refine ⟨_, (pss_cons (ps_set (i := 2) sc__law_ranked.nd rfl (by first | exact Or.inl rfl | exact Or.inr rfl) (pe_callB (r := rLenY K) cr_len (by rfl) bI_len PySem.boot_len (pa_cons (pv 0) pa_nil)))
      (pss_cons (ps_while PassesOwn.never (PW.pt (pw_and (pt_cmpR op_gt (pv 2) pe_int (nomark _)) (pw_and1 (pt_val (pe_call G__law_less hr1 rfl g__law_less k__law_less b__law_less .nil pass0 (pa_cons (pv 1) (pa_cons (pe_ix (r := rIxL K) ix_list (pv 0) (pe_op op_sub (pv 2) pe_int) (fun _ _ => rfl)) pa_nil))))))) (pss_one (ps_set (i := 2) sc__law_ranked.nd rfl (by first | exact Or.inl rfl | exact Or.inr rfl) (pe_op op_sub (pv 2) pe_int))))
      (pss_one (ps_if (PW.pt (pw_or (pt_cmpR op_eq (pv 2) pe_int (nomark _)) (pw_or1 (pt_cmpR (r := rNeD K) (op_neD hu64) (pe_ix (r := rIxL K) ix_list (pv 0) (pe_op op_sub (pv 2) pe_int) (fun _ _ => rfl)) (pv 1) (nomark _))))) (pss_one (ps_expr (pe_bm PySem.F.plainAttrs_list PySem.F.slot_list_insert PySem.F.type_list_insert mt_insY (pv 0) (pa_cons (pv 2) (pa_cons (pv 1) pa_nil))))) pss_nil)))), ?_⟩
    unfold l_ranked at P
    have st := Stp.refl (W := [p_found]) w
    refine h_set ?_
    refine h_cb ?_
    refine h_cons ?_
    refine h_var rfl ?_
    refine h_nil ?_
    obtain ⟨xs2, hv, hs3, hr4⟩ := Mu.sq m_found
    refine h_len hs3 hr4 ?_
    replace P := P.lt
    generalize hx : (a_found.length : Int) = x5 at P ⊢
    refine h_seq ?_
    have wj7 := w
    have sj6 := Stp.refl (W := []) w
    refine h_while P (fun (a : Int) σ' H' => ∃ (B' : Hp), Stp [] B0 H0 B' H' ∧ σ' = [some ((.ref p_found)), some (v_moment), some (.int a)]) ⟨_, sj6, rfl⟩ ?_ ?_
    · rintro N8 C9 T10 a15 _ H17 ⟨B16, s18, rfl⟩ kn11 kk12 kr13 kb14 P
      replace m_found := m_found.step s18 nm0
      replace st := st.go s18 go0
      replace w := s18.ok
      have sj6 := s18
      refine h_tand ?_
      refine h_test ?_
      refine h_op ?_
      refine h_var rfl ?_
      refine h_c ?_
      refine h_I0 ?_
      refine h_bl ?_
      refine h_ite (fun c1 => ?_) (fun c1 => ?_)
      · replace P := P.iteT c1
        refine h_tB ?_
        refine h_call ?_
        refine h_cons ?_
        refine h_var rfl ?_
        refine h_cons ?_
        refine h_op ?_
        refine h_var rfl ?_
        refine h_op ?_
        refine h_var rfl ?_
        refine h_c ?_
        refine h_I0 ?_
        obtain ⟨xs20, hv, hs21, hr22⟩ := Mu.sq m_found
        obtain ⟨x23, hx24, P⟩ := P.ix
        obtain ⟨u25, hu, r26⟩ := RepL.atE hr22 hx24
        refine h_ixL hs21 hu ?_
        refine h_nil ?_
        refine ⟨B16, v_moment, a_moment, u25, x23, w, rfl, (r_moment.mono st.ex), r26, (P.bind).mono (fun x27 P => ?_) (fun _ z => z)⟩
        refine fun v31 B28 H29 s30 r32 => ?_
        replace m_found := m_found.step s30 nm0
        replace r26 := r26.mono s30.ex
        replace st := st.go s30 go0
        replace sj6 := sj6.go s30 go0
        replace w := s30.ok
        cases r32
        refine h_bl ?_
        refine h_ite (fun c1 => ?_) (fun c1 => ?_)
        · replace P := P.iteT c1
          refine ⟨N8, kn11, ?_⟩
          refine h_set1 ?_
          refine h_op ?_
          refine h_var rfl ?_
          refine h_c ?_
          refine h_I0 ?_
          replace P := P.lt
          generalize hx : (a15 - 1) = x33 at P ⊢
          refine h_nx ?_
          exact kk12 x33 _ _ ⟨_, sj6, rfl⟩ P.ok
        · replace P := P.iteF c1
          exact kb14 a15 _ _ ⟨_, sj6, rfl⟩ P.ok
      · replace P := P.iteF c1
        refine h_iteF ?_
        exact kb14 a15 _ _ ⟨_, sj6, rfl⟩ P.ok
    · rintro a34 _ H36 ⟨B35, s37, rfl⟩ P
      replace m_found := m_found.step s37 nm0
      replace st := st.go s37 go0
      replace w := s37.ok
      refine h_nx ?_
      refine h_if ?_
      have wj39 := w
      have sj38 := Stp.refl (W := []) w
      refine h_condJ P (fun H' => ∃ B', Stp [] B35 H36 B' H') (fun N kk40 P => ?_) ?_
      · skip
        refine h_tor ?_
        refine h_test ?_
        refine h_op ?_
        refine h_var rfl ?_
        refine h_c ?_
        refine h_eqI ?_
        refine h_bl ?_
        refine h_ite (fun c1 => ?_) (fun c1 => ?_)
        · replace P := P.iteT c1
          exact kk40 _ _ ⟨_, sj38⟩ P.ok
        · replace P := P.iteF c1
          refine h_test ?_
          refine h_op ?_
          refine h_op ?_
          refine h_var rfl ?_
          refine h_op ?_
          refine h_var rfl ?_
          refine h_c ?_
          refine h_I0 ?_
          obtain ⟨xs42, hv, hs43, hr44⟩ := Mu.sq m_found
          obtain ⟨x45, hx46, P⟩ := P.ix
          obtain ⟨u47, hu, r48⟩ := RepL.atE hr44 hx46
          refine h_ixL hs43 hu ?_
          refine h_var rfl ?_
          obtain ⟨gd, P⟩ := P.guard
          refine h_neD (d := (enc x45)) (e := (enc a_moment)) w r48 (r_moment.mono st.ex) gd ?_
          refine h_bl ?_
          exact kk40 _ _ ⟨_, sj38⟩ P.ok
      rintro b49 H51 ⟨B50, s52⟩ P
      replace m_found := m_found.step s52 nm0
      replace st := st.go s52 go0
      replace w := s52.ok
      refine h_ite (fun c1 => ?_) (fun c1 => ?_)
      · replace P := P.iteT c1
        refine h_drop ?_
        refine h_bm ?_
        refine h_var rfl ?_
        refine h_bmL m_found ?_
        refine h_cons ?_
        refine h_var rfl ?_
        refine h_cons ?_
        refine h_var rfl ?_
        refine h_nil ?_
        obtain ⟨gd, P⟩ := P.guard
        refine h_insert (b := a_moment) w m_found (r_moment.mono st.ex) gd (fun H53 s54 m_found => ?_)
        replace st := st.go s54 (go1 (.inl (by simp)))
        replace w := s54.ok
        exact P.ok _ _ _ st m_found Rep.non
      · replace P := P.iteF c1
        refine h_next ?_
        exact P.ok _ _ _ st m_found Rep.non
theorem ok__law_alike {f : Addr} {fd : FuncData}  (F : Fun K "_law_alike" "_law_alike" s__law_alike f fd) {f__law_borders : Addr} {d__law_borders : FuncData} (g__law_borders : mg "_law_borders" = some (.ref f__law_borders)) (k__law_borders : PySem.W.keepIn K (.ref f__law_borders) = true) (b__law_borders : L2.Binds K d__law_borders ["_law_edits_here"] []) (G__law_borders : FnOk Pr wo K mg base CX0 4 f__law_borders d__law_borders ["_law_edits_here"] (sp__law_borders K)) {f__law_ranked : Addr} {d__law_ranked : FuncData} (g__law_ranked : mg "_law_ranked" = some (.ref f__law_ranked)) (k__law_ranked : PySem.W.keepIn K (.ref f__law_ranked) = true) (b__law_ranked : L2.Binds K d__law_ranked ["_law_found", "_law_moment"] []) (G__law_ranked : FnOk Pr wo K mg base CX0 2 f__law_ranked d__law_ranked ["_law_found", "_law_moment"] (sp__law_ranked K)) {f__law_times : Addr} {d__law_times : FuncData} (g__law_times : mg "_law_times" = some (.ref f__law_times)) (k__law_times : PySem.W.keepIn K (.ref f__law_times) = true) (b__law_times : L2.Binds K d__law_times ["_law_left", "_law_right_here"] []) (G__law_times : FnOk Pr wo K mg base CX0 3 f__law_times d__law_times ["_law_left", "_law_right_here"] (sp__law_times K)) {f__law_plus : Addr} {d__law_plus : FuncData} (g__law_plus : mg "_law_plus" = some (.ref f__law_plus)) (k__law_plus : PySem.W.keepIn K (.ref f__law_plus) = true) (b__law_plus : L2.Binds K d__law_plus ["_law_left", "_law_right_here"] []) (G__law_plus : FnOk Pr wo K mg base CX0 3 f__law_plus d__law_plus ["_law_left", "_law_right_here"] (sp__law_plus K)) {f__law_led : Addr} {d__law_led : FuncData} (g__law_led : mg "_law_led" = some (.ref f__law_led)) (k__law_led : PySem.W.keepIn K (.ref f__law_led) = true) (b__law_led : L2.Binds K d__law_led ["_law_edits_here", "_law_t"] []) (G__law_led : FnOk Pr wo K mg base CX0 4 f__law_led d__law_led ["_law_edits_here", "_law_t"] (sp__law_led K)) (bI_range : mg "range" = none) (bI_len : mg "len" = none) : FnOk Pr wo K mg base CX0 5 f fd ["_law_left", "_law_right_here"] (sp__law_alike K) := by
  refine F.ok sc__law_alike (fun vs H Q E h => ?_) (fun cdv A outer s H0 vs Q E hr h => ?_)
  · obtain ⟨_, _, _, _, _, _, rfl, _⟩ := h; rfl
  · obtain ⟨B0, v_left, a_left, v_right_here, a_right_here, w, rfl, r_left, r_right_here, P⟩ := h
    have w0 := w
    have hu := hu_of hr
    have hu64 := hu64_of hr
    have hr2 : Room 2 _ := hr.mono (by decide)
    have hr3 : Room 3 _ := hr.mono (by decide)
    have hr4 : Room 4 _ := hr.mono (by decide)
    refine ⟨_, (pss_cons (ps_set (i := 2) sc__law_alike.nd rfl (by first | exact Or.inl rfl | exact Or.inr rfl) (pe_lst pa_nil))
      (pss_cons (ps_for PassesOwn.never rfl (pi_list (pe_op (r := rCatQ K) op_catQ (pe_call G__law_borders hr4 rfl g__law_borders k__law_borders b__law_borders .nil pass0 (pa_cons (pv 0) pa_nil)) (pe_call G__law_borders hr4 rfl g__law_borders k__law_borders b__law_borders .nil pass0 (pa_cons (pv 1) pa_nil)))) (pg_name (i := 3) sc__law_alike.nd rfl (by first | exact Or.inl rfl | exact Or.inr rfl)) (pss_one (ps_expr (pe_call G__law_ranked hr2 rfl g__law_ranked k__law_ranked b__law_ranked .nil pass0 (pa_cons (pv 2) (pa_cons (pv 3) pa_nil))))))
      (pss_cons (ps_for PassesOwn.never rfl (pi_range1 (by rfl) bI_range (pa_cons (pe_op op_sub (pe_callB (r := rLenY K) cr_len (by rfl) bI_len PySem.boot_len (pa_cons (pv 2) pa_nil)) pe_int) pa_nil)) (pg_name (i := 4) sc__law_alike.nd rfl (by first | exact Or.inl rfl | exact Or.inr rfl)) (pss_one (ps_expr (pe_bm PySem.F.plainAttrs_list PySem.F.slot_list_append PySem.F.type_list_append mt_append (pv 2) (pa_cons (pe_call G__law_times hr3 rfl g__law_times k__law_times b__law_times .nil pass0 (pa_cons (pe_call G__law_plus hr3 rfl g__law_plus k__law_plus b__law_plus .nil pass0 (pa_cons (pe_ix (r := rIxL K) ix_list (pv 2) (pv 4) (fun _ _ => rfl)) (pa_cons (pe_ix (r := rIxL K) ix_list (pv 2) (pe_op op_add (pv 4) pe_int) (fun _ _ => rfl)) pa_nil))) (pa_cons (pe_tup (pa_cons pe_int (pa_cons pe_int pa_nil))) pa_nil))) pa_nil)))))
      (pss_one (ps_ret (pe_cmpR (r := rEqD K) (op_eqD hu64) (pe_lc (own := [("_law_t", 5)]) rfl sc__law_alike.nd (pi_list (pv 2)) (blkOk_by (N := ["_law_left", "_law_right_here", "_law_marks", "_law_moment", "_law_k", "_law_t"]) (sc := defScope s__law_alike) (by decide +kernel)) (fun _ _ _ _ _ => (pg_name (i := 5) sc__law_alike.nd rfl (by first | exact Or.inl rfl | exact Or.inr rfl))) (fun _ _ _ _ _ => (pts_one (pt_cmpR (r := rNeD K) (op_neD hu64) (pe_call G__law_led hr4 rfl g__law_led k__law_led b__law_led .nil pass0 (pa_cons (pv 0) (pa_cons (pv 5) pa_nil))) (pe_call G__law_led hr4 rfl g__law_led k__law_led b__law_led .nil pass0 (pa_cons (pv 1) (pa_cons (pv 5) pa_nil))) (nomark _)))) (fun _ _ _ _ _ => (pv 5))) (pe_lst pa_nil) (nomark _))))))), ?_⟩
    unfold l_alike at P
    have st := Stp.refl (W := []) w
    refine h_set ?_
    refine h_lst ?_
    refine h_nil ?_
    refine h_newM w (ds := (([] : List (Tp2 Int Int))).map enc) (K := K) .nil (fun p1 H2 hn5 s3 m4 => ?_) (by show 0 ≤ sizeLine; decide)
    have n6 := st.nn hn5
    replace st := st.go s3 go0
    replace w := s3.ok
    refine h_seq ?_
    refine h_forE ?_
    refine h_op ?_
    refine h_call ?_
    refine h_cons ?_
    refine h_var rfl ?_
    refine h_nil ?_
    refine ⟨B0, v_left, a_left, w, rfl, (Rep.bor0 w (r_left.mono st.ex)), (P.bind).mono (fun x7 P => ?_) (fun _ z => z)⟩
    refine fun v11 B8 H9 s10 r12 => ?_
    replace m4 := m4.step s10 nm0
    replace st := st.go s10 go0
    replace w := s10.ok
    refine h_call ?_
    refine h_cons ?_
    refine h_var rfl ?_
    refine h_nil ?_
    refine ⟨B8, v_right_here, a_right_here, w, rfl, (Rep.bor0 w (r_right_here.mono st.ex)), (P.bind).mono (fun x13 P => ?_) (fun _ z => z)⟩
    refine fun v17 B14 H15 s16 r18 => ?_
    replace m4 := m4.step s16 nm0
    replace r12 := r12.mono s16.ex
    replace st := st.go s16 go0
    replace w := s16.ok
    obtain ⟨p19, xs20, rfl, hs21, hr22⟩ := Rep.sq w r12
    obtain ⟨p23, xs24, rfl, hs25, hr26⟩ := Rep.sq w r18
    obtain ⟨gd, P⟩ := P.guard
    refine h_cat hs21 hs25 (by have g := gd; simp only [hr22.length, hr26.length, List.length_map] at g ⊢; exact Nat.le_trans g (by decide)) ?_
    refine h_nwL w (ds := ((x7 ++ x13)).map enc) (K := K) (RepL.cat hr22 hr26) (fun p27 B28 H29 s30 r31 => ?_) 
    replace m4 := m4.step s30 nm0
    replace st := st.go s30 go0
    replace w := s30.ok
    replace r31 : Rep K B28 (.ref p27) (enc (x7 ++ x13)) := r31
    obtain ⟨p32, xs33, hv, hb34, hr35⟩ := Rep.sqB r31
    cases hv
    have wj37 := w
    have sj36 := Stp.refl (W := [p1]) w
    refine h_forL P (w.l hb34) hr35 (fun (a : (List (Tp2 Int Int))) σ' H' => ∃ (B' : Hp) (o__law_moment : Option V), Stp [p1] B28 H29 B' H' ∧ σ' = [some (v_left), some (v_right_here), some ((.ref p1)), o__law_moment, none, none] ∧ Mu K B' H' p1 (a.map enc)) ⟨_, _, sj36, rfl, m4⟩ (fun _ _ _ j => ?_) ?_ ?_
    · obtain ⟨B47, o50, s49, rfl, m4⟩ := j
      exact s49.ok.l (s49.ex.l hb34)
    · rintro N38 T39 x44 v45 a43 _ H48 ⟨B47, o50, s49, rfl, m4⟩ r46 kk40 kr41 kb42 P
      replace st := st.go s49 (go1 (.inr n6))
      replace w := s49.ok
      have sj36 := s49
      replace r46 := r46.mono sj36.ex
      refine h_gname ?_
      refine h_drop ?_
      refine h_call ?_
      refine h_cons ?_
      refine h_var rfl ?_
      refine h_cons ?_
      refine h_var rfl ?_
      refine h_nil ?_
      refine ⟨B47, p1, a43, v45, x44, w, rfl, m4, r46, (P.bind).mono (fun x51 P => ?_) (fun _ z => z)⟩
      refine fun v55 B52 H53 s54 m4 r56 => ?_
      replace r46 := r46.mono s54.ex
      replace st := st.go s54 (go1 (.inr n6))
      replace sj36 := sj36.go s54 (go1 (.inl (by simp)))
      replace w := s54.ok
      cases r56
      refine h_nx ?_
      exact kk40 x51.2 _ _ ⟨_, _, sj36, rfl, m4⟩ P.ok
    · rintro a57 _ H59 ⟨B58, o61, s60, rfl, m4⟩ P
      replace st := st.go s60 (go1 (.inr n6))
      replace w := s60.ok
      refine h_nx ?_
      refine h_seq ?_
      refine h_rng1 ?_
      refine h_cons ?_
      refine h_op ?_
      refine h_cb ?_
      refine h_cons ?_
      refine h_var rfl ?_
      refine h_nil ?_
      obtain ⟨xs63, hv, hs64, hr65⟩ := Mu.sq m4
      refine h_len hs64 hr65 ?_
      refine h_c ?_
      refine h_I0 ?_
      refine h_nil ?_
      obtain ⟨gz66, P⟩ := P.guard
      have wj68 := w
      have sj67 := Stp.refl (W := [p1]) w
      refine h_forR1 P gz66 (fun (a : (List (Tp2 Int Int))) σ' H' => ∃ (B' : Hp) (o__law_k : Option V), Stp [p1] B58 H59 B' H' ∧ σ' = [some (v_left), some (v_right_here), some ((.ref p1)), o61, o__law_k, none] ∧ Mu K B' H' p1 (a.map enc)) ⟨_, _, sj67, rfl, m4⟩ ?_ ?_
      · rintro N69 T70 x75 a74 _ H79 ⟨B78, o81, s80, rfl, m4⟩ hlox75 hhix75 kk71 kr72 kb73 P
        replace st := st.go s80 (go1 (.inr n6))
        replace w := s80.ok
        have sj67 := s80
        refine h_gname ?_
        refine h_drop ?_
        refine h_bm ?_
        refine h_var rfl ?_
        refine h_bmL m4 ?_
        refine h_cons ?_
        refine h_call ?_
        refine h_cons ?_
        refine h_call ?_
        refine h_cons ?_
        refine h_op ?_
        refine h_var rfl ?_
        refine h_var rfl ?_
        obtain ⟨xs83, hv, hs84, hr85⟩ := Mu.sq m4
        obtain ⟨x86, hx87, P⟩ := P.ix
        obtain ⟨u88, hu, r89⟩ := RepL.atE hr85 hx87
        refine h_ixL hs84 hu ?_
        refine h_cons ?_
        refine h_op ?_
        refine h_var rfl ?_
        refine h_op ?_
        refine h_var rfl ?_
        refine h_c ?_
        refine h_I0 ?_
        obtain ⟨xs91, hv, hs92, hr93⟩ := Mu.sq m4
        obtain ⟨x94, hx95, P⟩ := P.ix
        obtain ⟨u96, hu, r97⟩ := RepL.atE hr93 hx95
        refine h_ixL hs92 hu ?_
        refine h_nil ?_
        refine ⟨B78, u88, x86, u96, x94, w, rfl, r89, r97, (P.bind).mono (fun x98 P => ?_) (fun _ z => z)⟩
        refine fun v102 B99 H100 s101 r103 => ?_
        replace m4 := m4.step s101 nm0
        replace r89 := r89.mono s101.ex
        replace r97 := r97.mono s101.ex
        replace st := st.go s101 go0
        replace sj67 := sj67.go s101 go0
        replace w := s101.ok
        refine h_cons ?_
        refine h_tup ?_
        refine h_cons ?_
        refine h_c ?_
        refine h_cons ?_
        refine h_c ?_
        refine h_nil ?_
        refine h_newT w (K := K) (.cons (Rep.int _) (.cons (Rep.int _) .nil)) (fun p104 B105 H106 s107 r108 => ?_) (by show 2 ≤ sizeLine; decide)
        replace m4 := m4.step s107 nm0
        replace r103 := r103.mono s107.ex
        replace st := st.go s107 go0
        replace sj67 := sj67.go s107 go0
        replace w := s107.ok
        replace r108 : Rep K B105 (.ref p104) (enc (⟨1, 2⟩ : (Tp2 Int Int))) := r108
        refine h_nil ?_
        refine ⟨B105, v102, x98, (.ref p104), (⟨1, 2⟩ : (Tp2 Int Int)), w, rfl, r103, r108, (P.bind).mono (fun x109 P => ?_) (fun _ z => z)⟩
        refine fun v113 B110 H111 s112 r114 => ?_
        replace m4 := m4.step s112 nm0
        replace r103 := r103.mono s112.ex
        replace r108 := r108.mono s112.ex
        replace st := st.go s112 go0
        replace sj67 := sj67.go s112 go0
        replace w := s112.ok
        refine h_nil ?_
        obtain ⟨gd, P⟩ := P.guard
        refine h_append (b := x109) w m4 r114 gd (fun H115 s116 m4 => ?_)
        replace st := st.go s116 (go1 (.inr n6))
        replace sj67 := sj67.go s116 (go1 (.inl (by simp)))
        replace w := s116.ok
        refine h_nx ?_
        exact kk71 (a74 ++ [x109]) _ _ ⟨_, _, sj67, rfl, m4⟩ P.ok
      · rintro a117 _ H119 ⟨B118, o121, s120, rfl, m4⟩ P
        replace st := st.go s120 (go1 (.inr n6))
        replace w := s120.ok
        refine h_nx ?_
        refine h_ret ?_
        refine h_op ?_
        refine h_lcE ?_
        refine h_var rfl ?_
        obtain ⟨xs123, hb124, hs, hr125⟩ := Mu.sq m4
        refine h_lcL P (SqL.of hb124) hr125 (fun Dl (acc : List (Tp2 Int Int)) (a : Unit) H' => ∃ B', Stp [] B118 H119 B' H' ∧ H119 Dl = none ∧ Mu K B' H' Dl (acc.map enc) ∧ p1 ≠ Dl) (fun Dl hD => ⟨_, Stp.newM w hD, hD, Mu.new w hD .nil, Mu.ne m4 hD⟩) (fun _ _ _ _ j => ?_) ?_ ?_
        · obtain ⟨B135, s136, hD137, m138, ne142⟩ := j
          exact SqL.of (s136.fr _ _ nm0 hb124)
        · rintro Dl126 N127 T128 x129 v130 acc132 a133 H134 ⟨B135, s136, hD137, m138, ne142⟩ r131 hz139 kk140 kn141 P
          have wj144 := w
          have sj143 := s136
          have n145 := st.nn hD137
          replace m4 := m4.step s136 nm0
          replace st := st.go s136 go0
          replace w := s136.ok
          replace r131 := r131.mono s136.ex
          refine h_gname ?_
          refine h_lcI rfl ?_
          refine h_test ?_
          refine h_op ?_
          refine h_call ?_
          refine h_cons ?_
          refine h_var rfl ?_
          refine h_cons ?_
          refine h_var rfl ?_
          refine h_nil ?_
          refine ⟨B135, v_left, a_left, v130, x129, w, rfl, (Rep.bor0 w (r_left.mono st.ex)), r131, (P.bind).mono (fun x146 P => ?_) (fun _ z => z)⟩
          refine fun v150 B147 H148 s149 r151 => ?_
          replace m4 := m4.step s149 nm0
          replace r131 := r131.mono s149.ex
          replace m138 := m138.step s149 nm0
          replace st := st.go s149 go0
          replace sj143 := sj143.go s149 go0
          replace w := s149.ok
          refine h_call ?_
          refine h_cons ?_
          refine h_var rfl ?_
          refine h_cons ?_
          refine h_var rfl ?_
          refine h_nil ?_
          refine ⟨B147, v_right_here, a_right_here, v130, x129, w, rfl, (Rep.bor0 w (r_right_here.mono st.ex)), r131, (P.bind).mono (fun x152 P => ?_) (fun _ z => z)⟩
          refine fun v156 B153 H154 s155 r157 => ?_
          replace m4 := m4.step s155 nm0
          replace r131 := r131.mono s155.ex
          replace m138 := m138.step s155 nm0
          replace r151 := r151.mono s155.ex
          replace st := st.go s155 go0
          replace sj143 := sj143.go s155 go0
          replace w := s155.ok
          obtain ⟨gd, P⟩ := P.guard
          refine h_neD (d := (enc x146)) (e := (enc x152)) w r151 r157 gd ?_
          refine h_bl ?_
          refine h_ite (fun c1 => ?_) (fun c1 => ?_)
          · replace P := P.iteT c1
            refine h_var rfl ?_
            refine h_app (b := x129) w m138 r131 hz139 (fun H158 s159 m138 => ?_)
            replace m4 := m4.step s159 (nm1 ne142)
            replace r131 := r131.mono s159.ex
            replace st := st.go s159 (go1 (.inr n145))
            replace sj143 := sj143.go s159 (go1 (.inr hD137))
            replace w := s159.ok
            exact kk140 x129 () _ ⟨_, sj143, hD137, m138, ne142⟩ P.ok
          · replace P := P.iteF c1
            exact kn141 () _ ⟨_, sj143, hD137, m138, ne142⟩ P.ok
        · rintro Dl126 acc132 a133 H134 ⟨B135, s136, hD137, m138, ne142⟩ P
          have n160 := st.nn hD137
          replace m4 := m4.step s136 nm0
          replace st := st.go s136 go0
          replace w := s136.ok
          replace P := P.un2
          obtain ⟨B165, e161, k162, g163, r164⟩ := Mu.keep m138
          replace st := g163 _ _ _ st w0 n160
          replace m4 := m4.kp e161 k162 ne142
          replace w := st.ok
          replace r164 : Rep K B165 (.ref Dl126) (enc acc132) := r164
          refine h_lst ?_
          refine h_nil ?_
          refine h_newL w (ds := (([] : List D)).map enc) (K := K) .nil (fun p166 B167 H168 s169 r170 => ?_) (by show 0 ≤ sizeLine; decide)
          replace m4 := m4.step s169 nm0
          replace r164 := r164.mono s169.ex
          replace st := st.go s169 go0
          replace w := s169.ok
          replace r170 : Rep K B167 (.ref p166) (enc ([] : List D)) := r170
          obtain ⟨gd, P⟩ := P.guard
          refine h_eqD (d := (enc acc132)) (e := (enc ([] : List D))) w r164 r170 gd ?_
          exact P.ok _ _ _ st (Rep.bl _)
theorem ok__law_right {f : Addr} {fd : FuncData}  (F : Fun K "_law_right" "_law_right" s__law_right f fd) {f_parted : Addr} {d_parted : FuncData} (g_parted : mg "parted" = some (.ref f_parted)) (k_parted : PySem.W.keepIn K (.ref f_parted) = true) (b_parted : L2.Binds K d_parted ["one", "other"] []) (G_parted : FnOk Pr wo K mg base (L2.CX Pr wo) 8 f_parted d_parted ["one", "other"] (sp_parted K mg)) {f__law_alike : Addr} {d__law_alike : FuncData} (g__law_alike : mg "_law_alike" = some (.ref f__law_alike)) (k__law_alike : PySem.W.keepIn K (.ref f__law_alike) = true) (b__law_alike : L2.Binds K d__law_alike ["_law_left", "_law_right_here"] []) (G__law_alike : FnOk Pr wo K mg base CX0 5 f__law_alike d__law_alike ["_law_left", "_law_right_here"] (sp__law_alike K)) {f__law_led : Addr} {d__law_led : FuncData} (g__law_led : mg "_law_led" = some (.ref f__law_led)) (k__law_led : PySem.W.keepIn K (.ref f__law_led) = true) (b__law_led : L2.Binds K d__law_led ["_law_edits_here", "_law_t"] []) (G__law_led : FnOk Pr wo K mg base CX0 4 f__law_led d__law_led ["_law_edits_here", "_law_t"] (sp__law_led K)) (bI_list : mg "list" = none) (bI_isinstance : mg "isinstance" = none) (bI_bool : mg "bool" = none) (bI_tuple : mg "tuple" = none) (bI_len : mg "len" = none) : FnOk Pr wo K mg base CX0 9 f fd ["_law_left", "_law_right_here"] (sp__law_right K) := by
  refine F.ok sc__law_right (fun vs H Q E h => ?_) (fun cdv A outer s H0 vs Q E hr h => ?_)
  · obtain ⟨_, _, _, _, _, _, rfl, _⟩ := h; rfl
  · obtain ⟨B0, v_left, a_left, v_right_here, a_right_here, w, rfl, r_left, r_right_here, P⟩ := h
    have w0 := w
    have hu := hu_of hr
    have hu64 := hu64_of hr
    have hr4 : Room 4 _ := hr.mono (by decide)
    have hr5 : Room 5 _ := hr.mono (by decide)
    have hr8 : Room 8 _ := hr.mono (by decide)
    refine ⟨_, (pss_cons (ps_set (i := 2) sc__law_right.nd rfl (by first | exact Or.inl rfl | exact Or.inr rfl) (pe_lst (pa_cons (pe_callTy (r := rListY K) cr_list (by rfl) bI_list Y.boot_list (pa_cons (pv 0) pa_nil)) (pa_cons (pe_callTy (r := rListY K) cr_list (by rfl) bI_list Y.boot_list (pa_cons (pv 1) pa_nil)) pa_nil))))
      (pss_cons (ps_set (i := 3) sc__law_right.nd rfl (by first | exact Or.inl rfl | exact Or.inr rfl) (pe_call G_parted hr8 rfl g_parted k_parted b_parted .nil passL (pa_cons (pe_ix (r := rIxL K) ix_list (pv 2) pe_int (fun _ _ => rfl)) (pa_cons (pe_ix (r := rIxL K) ix_list (pv 2) pe_int (fun _ _ => rfl)) pa_nil))))
      (pss_cons (ps_if (pt_cmpR (r := rNeD K) (op_neD hu64) (pv 2) (pe_lst (pa_cons (pv 0) (pa_cons (pv 1) pa_nil))) (nomark _)) (pss_one (ps_ret pe_bl)) pss_nil)
      (pss_cons (ps_if (pt_cmpR op_isNn (pv 3) pe_non (nomark _)) (pss_one (ps_ret (pe_call G__law_alike hr5 rfl g__law_alike k__law_alike b__law_alike .nil pass0 (pa_cons (pv 0) (pa_cons (pv 1) pa_nil))))) pss_nil)
      (pss_cons (ps_if (PW.pt (pw_or (pt_not (pt_val (pe_callB (r := rIsi K) call_isi (by rfl) bI_isinstance PyProof.Rows.boot_isinstance (pa_cons (pv 3) (pa_cons (pe_bltn (v := .ty "tuple") (by rfl) bI_tuple Y.boot_tuple rfl) pa_nil))))) (pw_or (pt_cmpR op_ne (pe_callB (r := rLenY K) cr_len (by rfl) bI_len PySem.boot_len (pa_cons (pv 3) pa_nil)) pe_int (nomark _)) (pw_or (pt_val (pe_callB (r := rIsi K) call_isi (by rfl) bI_isinstance PyProof.Rows.boot_isinstance (pa_cons (pe_ix (r := rIxT K) ix_tup (pv 3) pe_int (fun _ _ => rfl)) (pa_cons (pe_bltn (v := .ty "bool") (by rfl) bI_bool Y.boot_bool rfl) pa_nil)))) (pw_or (pt_cmpR op_lt (pe_ix (r := rIxT K) ix_tup (pv 3) pe_int (fun _ _ => rfl)) pe_int (nomark _)) (pw_or1 (pt_cmpR op_lt (pe_ix (r := rIxT K) ix_tup (pv 3) pe_int (fun _ _ => rfl)) pe_int (nomark _)))))))) (pss_one (ps_ret pe_bl)) pss_nil)
      (pss_one (ps_ret (pe_cmpR (r := rNeD K) (op_neD hu64) (pe_call G__law_led hr4 rfl g__law_led k__law_led b__law_led .nil pass0 (pa_cons (pv 0) (pa_cons (pv 3) pa_nil))) (pe_call G__law_led hr4 rfl g__law_led k__law_led b__law_led .nil pass0 (pa_cons (pv 1) (pa_cons (pv 3) pa_nil))) (nomark _))))))))), ?_⟩
    unfold l_right at P
    have st := Stp.refl (W := []) w
    refine h_set ?_
    refine h_lst ?_
    refine h_cons ?_
    refine h_cb ?_
    refine h_cons ?_
    refine h_var rfl ?_
    refine h_nil ?_
    obtain ⟨p1, xs2, rfl, hs3, hr4⟩ := Rep.sq w (r_left.mono st.ex)
    refine h_listL hs3 ?_
    refine h_nwL w (ds := (a_left).map enc) (K := K) hr4 (fun p5 B6 H7 s8 r9 => ?_) 
    replace st := st.go s8 go0
    replace w := s8.ok
    replace r9 : Rep K B6 (.ref p5) (enc a_left) := r9
    refine h_cons ?_
    refine h_cb ?_
    refine h_cons ?_
    refine h_var rfl ?_
    refine h_nil ?_
    obtain ⟨p10, xs11, rfl, hs12, hr13⟩ := Rep.sq w (r_right_here.mono st.ex)
    refine h_listL hs12 ?_
    refine h_nwL w (ds := (a_right_here).map enc) (K := K) hr13 (fun p14 B15 H16 s17 r18 => ?_) 
    replace r9 := r9.mono s17.ex
    replace st := st.go s17 go0
    replace w := s17.ok
    replace r18 : Rep K B15 (.ref p14) (enc a_right_here) := r18
    refine h_nil ?_
    refine h_newL w (ds := (([a_left, a_right_here] : List (List (Tp3 (Tp2 Int Int) (Option (Tp2 Int Int)) (Tp2 Int Int))))).map enc) (K := K) (.cons r9 (.cons r18 .nil)) (fun p19 B20 H21 s22 r23 => ?_) (by show 2 ≤ sizeLine; decide)
    replace st := st.go s22 go0
    replace w := s22.ok
    replace r23 : Rep K B20 (.ref p19) (enc ([a_left, a_right_here] : List (List (Tp3 (Tp2 Int Int) (Option (Tp2 Int Int)) (Tp2 Int Int))))) := r23
    refine h_set ?_
    refine h_call ?_
    refine h_cons ?_
    refine h_op ?_
    refine h_var rfl ?_
    refine h_c ?_
    obtain ⟨p24, xs25, hv, hs26, hr27⟩ := Rep.sq w r23
    cases hv
    obtain ⟨x28, hx29, P⟩ := P.ix
    obtain ⟨u30, hu, r31⟩ := RepL.atE hr27 hx29
    refine h_ixL hs26 hu ?_
    refine h_cons ?_
    refine h_op ?_
    refine h_var rfl ?_
    refine h_c ?_
    obtain ⟨p32, xs33, hv, hs34, hr35⟩ := Rep.sq w r23
    cases hv
    obtain ⟨x36, hx37, P⟩ := P.ix
    obtain ⟨u38, hu, r39⟩ := RepL.atE hr35 hx37
    refine h_ixL hs34 hu ?_
    refine h_nil ?_
    refine ⟨B20, u30, x28, u38, x36, w, rfl, (Rep.bor0 w r31), (Rep.bor0 w r39), (P.bind.noErr).mono (fun x40 P => ?_) (fun _ z => z.elim)⟩
    refine fun v44 B41 H42 s43 r45 => ?_
    replace r23 := r23.mono s43.ex
    replace r31 := r31.mono s43.ex
    replace r39 := r39.mono s43.ex
    replace st := st.go s43 go0
    replace w := s43.ok
    refine h_seq <| h_if ?_
    refine h_test ?_
    refine h_op ?_
    refine h_var rfl ?_
    refine h_lst ?_
    refine h_cons ?_
    refine h_var rfl ?_
    refine h_cons ?_
    refine h_var rfl ?_
    refine h_nil ?_
    refine h_newL w (ds := (([a_left, a_right_here] : List (List (Tp3 (Tp2 Int Int) (Option (Tp2 Int Int)) (Tp2 Int Int))))).map enc) (K := K) (.cons (r_left.mono st.ex) (.cons (r_right_here.mono st.ex) .nil)) (fun p46 B47 H48 s49 r50 => ?_) (by show 2 ≤ sizeLine; decide)
    replace r23 := r23.mono s49.ex
    replace r45 := r45.mono s49.ex
    replace st := st.go s49 go0
    replace w := s49.ok
    replace r50 : Rep K B47 (.ref p46) (enc ([a_left, a_right_here] : List (List (Tp3 (Tp2 Int Int) (Option (Tp2 Int Int)) (Tp2 Int Int))))) := r50
    obtain ⟨gd, P⟩ := P.guard
    refine h_neD (d := (enc ([a_left, a_right_here] : List (List (Tp3 (Tp2 Int Int) (Option (Tp2 Int Int)) (Tp2 Int Int)))))) (e := (enc ([a_left, a_right_here] : List (List (Tp3 (Tp2 Int Int) (Option (Tp2 Int Int)) (Tp2 Int Int)))))) w r23 r50 gd ?_
    refine h_bl ?_
    refine h_ite (fun c1 => ?_) (fun c1 => ?_)
    · replace P := P.iteT c1
      refine h_ret ?_
      refine h_c ?_
      exact P.ok _ _ _ st (Rep.bl _)
    · replace P := P.iteF c1
      refine h_next ?_
      refine h_nx ?_
      refine h_seq <| h_if ?_
      refine h_test ?_
      refine h_op ?_
      refine h_var rfl ?_
      refine h_c ?_
      refine h_isN r45 ?_
      refine h_bl ?_
      refine h_ite (fun c1 => ?_) (fun c1 => ?_)
      · replace P := P.iteT c1
        refine h_ret ?_
        refine h_call ?_
        refine h_cons ?_
        refine h_var rfl ?_
        refine h_cons ?_
        refine h_var rfl ?_
        refine h_nil ?_
        refine ⟨B47, (.ref p1), a_left, (.ref p10), a_right_here, w, rfl, (r_left.mono st.ex), (r_right_here.mono st.ex), (P.bind).mono (fun x51 P => ?_) (fun _ z => z)⟩
        refine fun v55 B52 H53 s54 r56 => ?_
        replace r23 := r23.mono s54.ex
        replace r45 := r45.mono s54.ex
        replace st := st.go s54 go0
        replace w := s54.ok
        cases r56
        exact P.ok _ _ _ st (Rep.bl _)
      · replace P := P.iteF c1
        refine h_next ?_
        refine h_nx ?_
        refine h_seq <| h_if ?_
        refine h_tor ?_
        refine h_tnot ?_
        refine h_tB ?_
        refine h_cb ?_
        refine h_cons ?_
        refine h_var rfl ?_
        refine h_cons ?_
        refine h_c ?_
        refine h_nil ?_
        refine isi (t := "tuple") w r45 ?_
        refine h_bl ?_
        refine h_iteN (fun c1 => ?_) (fun c1 => ?_)
        · replace P := P.iteF c1
          refine h_iteT ?_
          refine h_ret ?_
          refine h_c ?_
          exact P.ok _ _ _ st (Rep.bl _)
        · replace P := P.iteT c1
          refine h_tor ?_
          refine h_test ?_
          refine h_op ?_
          refine h_cb ?_
          refine h_cons ?_
          refine h_var rfl ?_
          refine h_nil ?_
          obtain ⟨x57, hx58, P⟩ := P.some
          have rc59 := r45
          rw [hx58] at rc59
          replace rc59 : Rep K B47 v44 (enc x57) := rc59
          obtain ⟨p60, xs61, rfl, hs62, hr63⟩ := Rep.st w rc59
          refine h_lenT hs62 hr63 ?_
          refine h_c ?_
          refine h_neI ?_
          refine h_bl ?_
          refine h_ite (fun c1 => ?_) (fun c1 => ?_)
          · replace P := P.iteT c1
            refine h_iteT ?_
            refine h_ret ?_
            refine h_c ?_
            exact P.ok _ _ _ st (Rep.bl _)
          · replace P := P.iteF c1
            refine h_tor ?_
            refine h_tB ?_
            refine h_cb ?_
            refine h_cons ?_
            refine h_op ?_
            refine h_var rfl ?_
            refine h_c ?_
            obtain ⟨x64, hx65, P⟩ := P.some
            have rc66 := r45
            rw [hx65] at rc66
            replace rc66 : Rep K B47 (.ref p60) (enc x64) := rc66
            obtain ⟨p67, xs68, hv, hs69, hr70⟩ := Rep.st w rc66
            cases hv
            obtain ⟨u71, hu, r72⟩ := RepL.at hr70 (i := 0) rfl
            refine h_ixT hs69 hu ?_
            cases r72
            refine h_cons ?_
            refine h_c ?_
            refine h_nil ?_
            refine isi (t := "bool") w (Rep.int _) ?_
            refine h_bl ?_
            refine h_ite (fun c1 => ?_) (fun c1 => ?_)
            · replace P := P.iteT c1
              refine h_iteT ?_
              refine h_ret ?_
              refine h_c ?_
              exact P.ok _ _ _ st (Rep.bl _)
            · replace P := P.iteF c1
              refine h_tor ?_
              refine h_test ?_
              refine h_op ?_
              refine h_op ?_
              refine h_var rfl ?_
              refine h_c ?_
              obtain ⟨x73, hx74, P⟩ := P.some
              have rc75 := r45
              rw [hx74] at rc75
              replace rc75 : Rep K B47 (.ref p60) (enc x73) := rc75
              obtain ⟨p76, xs77, hv, hs78, hr79⟩ := Rep.st w rc75
              cases hv
              obtain ⟨u80, hu, r81⟩ := RepL.at hr79 (i := 0) rfl
              refine h_ixT hs78 hu ?_
              cases r81
              refine h_c ?_
              refine h_I0 ?_
              refine h_bl ?_
              refine h_ite (fun c1 => ?_) (fun c1 => ?_)
              · replace P := P.iteT c1
                refine h_iteT ?_
                refine h_ret ?_
                refine h_c ?_
                exact P.ok _ _ _ st (Rep.bl _)
              · replace P := P.iteF c1
                refine h_test ?_
                refine h_op ?_
                refine h_op ?_
                refine h_var rfl ?_
                refine h_c ?_
                obtain ⟨x82, hx83, P⟩ := P.some
                have rc84 := r45
                rw [hx83] at rc84
                replace rc84 : Rep K B47 (.ref p60) (enc x82) := rc84
                obtain ⟨p85, xs86, hv, hs87, hr88⟩ := Rep.st w rc84
                cases hv
                obtain ⟨u89, hu, r90⟩ := RepL.at hr88 (i := 1) rfl
                refine h_ixT hs87 hu ?_
                cases r90
                refine h_c ?_
                refine h_I0 ?_
                refine h_bl ?_
                refine h_ite (fun c1 => ?_) (fun c1 => ?_)
                · replace P := P.iteT c1
                  refine h_ret ?_
                  refine h_c ?_
                  exact P.ok _ _ _ st (Rep.bl _)
                · replace P := P.iteF c1
                  refine h_next ?_
                  refine h_nx ?_
                  refine h_ret ?_
                  refine h_op ?_
                  refine h_call ?_
                  refine h_cons ?_
                  refine h_var rfl ?_
                  refine h_cons ?_
                  refine h_var rfl ?_
                  refine h_nil ?_
                  obtain ⟨x91, hx92, P⟩ := P.some
                  have rc93 := r45
                  rw [hx92] at rc93
                  replace rc93 : Rep K B47 (.ref p60) (enc x91) := rc93
                  refine ⟨B47, (.ref p1), a_left, (.ref p60), x91, w, rfl, (Rep.bor0 w (r_left.mono st.ex)), rc93, (P.bind).mono (fun x94 P => ?_) (fun _ z => z)⟩
                  refine fun v98 B95 H96 s97 r99 => ?_
                  replace r23 := r23.mono s97.ex
                  replace r45 := r45.mono s97.ex
                  replace st := st.go s97 go0
                  replace w := s97.ok
                  refine h_call ?_
                  refine h_cons ?_
                  refine h_var rfl ?_
                  refine h_cons ?_
                  refine h_var rfl ?_
                  refine h_nil ?_
                  obtain ⟨x100, hx101, P⟩ := P.some
                  have rc102 := r45
                  rw [hx101] at rc102
                  replace rc102 : Rep K B95 (.ref p60) (enc x100) := rc102
                  refine ⟨B95, (.ref p10), a_right_here, (.ref p60), x100, w, rfl, (Rep.bor0 w (r_right_here.mono st.ex)), rc102, (P.bind).mono (fun x103 P => ?_) (fun _ z => z)⟩
                  refine fun v107 B104 H105 s106 r108 => ?_
                  replace r23 := r23.mono s106.ex
                  replace r45 := r45.mono s106.ex
                  replace r99 := r99.mono s106.ex
                  replace st := st.go s106 go0
                  replace w := s106.ok
                  obtain ⟨gd, P⟩ := P.guard
                  refine h_neD (d := (enc x94)) (e := (enc x103)) w r99 r108 gd ?_
                  exact P.ok _ _ _ st (Rep.bl _)
theorem ok_law {f : Addr} {fd : FuncData}  (F : Fun K "law" "law" s_law f fd) {f__law_edits : Addr} {d__law_edits : FuncData} (g__law_edits : mg "_law_edits" = some (.ref f__law_edits)) (k__law_edits : PySem.W.keepIn K (.ref f__law_edits) = true) (b__law_edits : L2.Binds K d__law_edits ["_law_state", "_law_few"] []) (G__law_edits : FnOk Pr wo K mg base CX0 5 f__law_edits d__law_edits ["_law_state", "_law_few"] (sp__law_edits K)) {f__law_changed : Addr} {d__law_changed : FuncData} (g__law_changed : mg "_law_changed" = some (.ref f__law_changed)) (k__law_changed : PySem.W.keepIn K (.ref f__law_changed) = true) (b__law_changed : L2.Binds K d__law_changed ["_law_state", "_law_edits_here"] []) (G__law_changed : FnOk Pr wo K mg base CX0 6 f__law_changed d__law_changed ["_law_state", "_law_edits_here"] (sp__law_changed K)) {f_parted : Addr} {d_parted : FuncData} (g_parted : mg "parted" = some (.ref f_parted)) (k_parted : PySem.W.keepIn K (.ref f_parted) = true) (b_parted : L2.Binds K d_parted ["one", "other"] []) (G_parted : FnOk Pr wo K mg base (L2.CX Pr wo) 8 f_parted d_parted ["one", "other"] (sp_parted K mg)) {f__law_cell_at : Addr} {d__law_cell_at : FuncData} (g__law_cell_at : mg "_law_cell_at" = some (.ref f__law_cell_at)) (k__law_cell_at : PySem.W.keepIn K (.ref f__law_cell_at) = true) (b__law_cell_at : L2.Binds K d__law_cell_at ["_law_script", "_law_k"] []) (G__law_cell_at : FnOk Pr wo K mg base CX0 1 f__law_cell_at d__law_cell_at ["_law_script", "_law_k"] (sp__law_cell_at K)) {f__law_right : Addr} {d__law_right : FuncData} (g__law_right : mg "_law_right" = some (.ref f__law_right)) (k__law_right : PySem.W.keepIn K (.ref f__law_right) = true) (b__law_right : L2.Binds K d__law_right ["_law_left", "_law_right_here"] []) (G__law_right : FnOk Pr wo K mg base CX0 9 f__law_right d__law_right ["_law_left", "_law_right_here"] (sp__law_right K)) (kb_parted_0_other_one : KBinds K d_parted ["one", "other"] ["other", "one"] (fun us ws => match us, ws with | [], [w0, w1] => [w1, w0] | _, _ => []) (fun us ws => match us, ws with | [], [w0, w1] => [w1, w0] | _, _ => [])) : FnOk Pr wo K mg base CX0 10 f fd ["_law_script"] (sp_law K) := by
  refine F.ok sc_law (fun vs H Q E h => ?_) (fun cdv A outer s H0 vs Q E hr h => ?_)
  · obtain ⟨_, _, _, _, rfl, _⟩ := h; rfl
  · obtain ⟨B0, v_script, a_script, w, rfl, r_script, P⟩ := h
    have w0 := w
    have hu := hu_of hr
    have hu64 := hu64_of hr
    have hr1 : Room 1 _ := hr.mono (by decide)
    have hr5 : Room 5 _ := hr.mono (by decide)
    have hr6 : Room 6 _ := hr.mono (by decide)
    have hr8 : Room 8 _ := hr.mono (by decide)
    have hr9 : Room 9 _ := hr.mono (by decide)
    refine ⟨_, (pss_cons (ps_set (i := 1) sc_law.nd rfl (by first | exact Or.inl rfl | exact Or.inr rfl) (pe_call G__law_edits hr5 rfl g__law_edits k__law_edits b__law_edits .nil pass0 (pa_cons (pe_lst (pa_cons (pe_call G__law_cell_at hr1 rfl g__law_cell_at k__law_cell_at b__law_cell_at .nil pass0 (pa_cons (pv 0) (pa_cons pe_int pa_nil))) pa_nil)) (pa_cons pe_int pa_nil))))
      (pss_cons (ps_if (PW.pt (pw_or (pt_not (pt_val (pe_call G__law_right hr9 rfl g__law_right k__law_right b__law_right .nil pass0 (pa_cons (pv 1) (pa_cons (pv 1) pa_nil))))) (pw_or1 (pt_not (pt_val (pe_call G__law_right hr9 rfl g__law_right k__law_right b__law_right .nil pass0 (pa_cons (pv 1) (pa_cons (pe_lst pa_nil) pa_nil)))))))) (pss_one (ps_ret pe_bl)) pss_nil)
      (pss_cons (ps_for PassesOwn.never rfl (pi_list (pe_op (r := rCatQ K) op_catQ (pe_lst (pa_cons pe_int pa_nil)) (pe_slice (r := rSlQ K) sl_Q (pv 0) (po_some pe_int) (po_some pe_int)))) (pg_name (i := 2) sc_law.nd rfl (by first | exact Or.inl rfl | exact Or.inr rfl)) (pss_cons (ps_set (i := 3) sc_law.nd rfl (by first | exact Or.inl rfl | exact Or.inr rfl) (pe_lst (pa_cons (pv 2) pa_nil)))
      (pss_cons (ps_set (i := 4) sc_law.nd rfl (by first | exact Or.inl rfl | exact Or.inr rfl) (pe_call G__law_changed hr6 rfl g__law_changed k__law_changed b__law_changed .nil pass0 (pa_cons (pv 3) (pa_cons (pv 1) pa_nil))))
      (pss_one (ps_if (PW.pt (pw_or (pt_not (pt_val (pe_call G__law_right hr9 rfl g__law_right k__law_right b__law_right .nil pass0 (pa_cons (pv 1) (pa_cons (pv 4) pa_nil))))) (pw_or1 (pt_not (pt_val (pe_call G__law_right hr9 rfl g__law_right k__law_right b__law_right .nil pass0 (pa_cons (pv 4) (pa_cons (pv 1) pa_nil)))))))) (pss_one (ps_ret pe_bl)) pss_nil)))))
      (pss_one (ps_ret (pe_cmpR op_isNn (pe_callK0 G_parted hr8 rfl g_parted k_parted kb_parted_0_other_one passL (pk_cons (pv 1) (pk_cons (pv 1) pk_nil))) pe_non (nomark _))))))), ?_⟩
    unfold m_law at P
    have st := Stp.refl (W := []) w
    refine h_set ?_
    refine h_call ?_
    refine h_cons ?_
    refine h_lst ?_
    refine h_cons ?_
    refine h_call ?_
    refine h_cons ?_
    refine h_var rfl ?_
    refine h_cons ?_
    refine h_c ?_
    refine h_nil ?_
    refine ⟨B0, v_script, a_script, 0, w, rfl, ((r_script.step st).w sub0), (P.bind).mono (fun x1 P => ?_) (fun _ z => z)⟩
    refine fun v5 B2 H3 s4 r6 => ?_
    replace st := st.go s4 go0
    replace w := s4.ok
    cases r6
    refine h_nil ?_
    refine h_newM w (ds := (([x1] : List Int)).map enc) (K := K) (.cons (Rep.int _) .nil) (fun p7 H8 hn11 s9 m10 => ?_) (by show 1 ≤ sizeLine; decide)
    have n12 := st.nn hn11
    replace st := st.go s9 go0
    replace w := s9.ok
    refine h_cons ?_
    refine h_c ?_
    refine h_nil ?_
    refine ⟨B2, p7, ([x1] : List Int), 7, w, rfl, m10, (P.bind).mono (fun x13 P => ?_) (fun _ z => z)⟩
    refine fun v17 B14 H15 s16 m10 r18 => ?_
    replace st := st.go s16 (go1 (.inr n12))
    replace w := s16.ok
    refine h_seq <| h_if ?_
    refine h_tor ?_
    refine h_tnot ?_
    refine h_tB ?_
    refine h_call ?_
    refine h_cons ?_
    refine h_var rfl ?_
    refine h_cons ?_
    refine h_var rfl ?_
    refine h_nil ?_
    refine ⟨B14, v17, x13.1, v17, x13.1, w, rfl, r18, r18, (P.bind).mono (fun x19 P => ?_) (fun _ z => z)⟩
    refine fun v23 B20 H21 s22 r24 => ?_
    replace r18 := r18.mono s22.ex
    replace st := st.go s22 go0
    replace w := s22.ok
    cases r24
    refine h_bl ?_
    refine h_iteN (fun c1 => ?_) (fun c1 => ?_)
    · replace P := P.iteF c1
      refine h_iteT ?_
      refine h_ret ?_
      refine h_c ?_
      exact P.ok _ _ _ st (Rep.bl _)
    · replace P := P.iteT c1
      refine h_tnot ?_
      refine h_tB ?_
      refine h_call ?_
      refine h_cons ?_
      refine h_var rfl ?_
      refine h_cons ?_
      refine h_lst ?_
      refine h_nil ?_
      refine h_newL w (ds := (([] : List (Tp3 (Tp2 Int Int) (Option (Tp2 Int Int)) (Tp2 Int Int)))).map enc) (K := K) .nil (fun p25 B26 H27 s28 r29 => ?_) (by show 0 ≤ sizeLine; decide)
      replace r18 := r18.mono s28.ex
      replace st := st.go s28 go0
      replace w := s28.ok
      replace r29 : Rep K B26 (.ref p25) (enc ([] : List (Tp3 (Tp2 Int Int) (Option (Tp2 Int Int)) (Tp2 Int Int)))) := r29
      refine h_nil ?_
      refine ⟨B26, v17, x13.1, (.ref p25), ([] : List (Tp3 (Tp2 Int Int) (Option (Tp2 Int Int)) (Tp2 Int Int))), w, rfl, r18, r29, (P.bind).mono (fun x30 P => ?_) (fun _ z => z)⟩
      refine fun v34 B31 H32 s33 r35 => ?_
      replace r18 := r18.mono s33.ex
      replace r29 := r29.mono s33.ex
      replace st := st.go s33 go0
      replace w := s33.ok
      cases r35
      refine h_bl ?_
      refine h_iteN (fun c1 => ?_) (fun c1 => ?_)
      · replace P := P.iteF c1
        refine h_ret ?_
        refine h_c ?_
        exact P.ok _ _ _ st (Rep.bl _)
      · replace P := P.iteT c1
        refine h_next ?_
        refine h_nx ?_
        refine h_seq ?_
        refine h_forE ?_
        refine h_op ?_
        refine h_lst ?_
        refine h_cons ?_
        refine h_c ?_
        refine h_nil ?_
        refine h_newL w (ds := (([1] : List Int)).map enc) (K := K) (.cons (Rep.int _) .nil) (fun p36 B37 H38 s39 r40 => ?_) (by show 1 ≤ sizeLine; decide)
        replace r18 := r18.mono s39.ex
        replace st := st.go s39 go0
        replace w := s39.ok
        replace r40 : Rep K B37 (.ref p36) (enc ([1] : List Int)) := r40
        refine h_sl ?_
        refine h_var rfl ?_
        refine h_part ?_
        refine h_c ?_
        refine h_isI ?_
        refine h_part ?_
        refine h_c ?_
        refine h_isI ?_
        obtain ⟨p41, xs42, rfl, hs43, hr44⟩ := Bor.sq (r_script.step st)
        refine h_slQ hs43 ?_
        refine h_nwL w (ds := ((cutL a_script (some 1) (some 6))).map enc) (K := K) (hr44.cut (some 1) (some 6)) (fun p45 B46 H47 s48 r49 => ?_) 
        replace r18 := r18.mono s48.ex
        replace r40 := r40.mono s48.ex
        replace st := st.go s48 go0
        replace w := s48.ok
        replace r49 : Rep K B46 (.ref p45) (enc (cutL a_script (some 1) (some 6))) := r49
        obtain ⟨p50, xs51, hv, hs52, hr53⟩ := Rep.sq w r40
        cases hv
        obtain ⟨p54, xs55, hv, hs56, hr57⟩ := Rep.sq w r49
        cases hv
        obtain ⟨gd, P⟩ := P.guard
        refine h_cat hs52 hs56 (by have g := gd; simp only [hr53.length, hr57.length, List.length_map] at g ⊢; exact Nat.le_trans g (by decide)) ?_
        refine h_nwL w (ds := ((([1] : List Int) ++ (cutL a_script (some 1) (some 6)))).map enc) (K := K) (RepL.cat hr53 hr57) (fun p58 B59 H60 s61 r62 => ?_) 
        replace r18 := r18.mono s61.ex
        replace st := st.go s61 go0
        replace w := s61.ok
        replace r62 : Rep K B59 (.ref p58) (enc (([1] : List Int) ++ (cutL a_script (some 1) (some 6)))) := r62
        obtain ⟨p63, xs64, hv, hb65, hr66⟩ := Rep.sqB r62
        cases hv
        have wj68 := w
        have sj67 := Stp.refl (W := []) w
        refine h_forL P (w.l hb65) hr66 (fun (a : Unit) σ' H' => ∃ (B' : Hp) (o__law_state : Option V) (o__law_right_here : Option V) (o__law_cell : Option V), Stp [] B59 H60 B' H' ∧ σ' = [some ((.ref p41)), some (v17), o__law_cell, o__law_state, o__law_right_here]) ⟨_, _, _, _, sj67, rfl⟩ (fun _ _ _ j => ?_) ?_ ?_
        · obtain ⟨B78, o81, o82, o83, s80, rfl⟩ := j
          exact s80.ok.l (s80.ex.l hb65)
        · rintro N69 T70 x75 v76 a74 _ H79 ⟨B78, o81, o82, o83, s80, rfl⟩ r77 kk71 kr72 kb73 P
          replace r18 := r18.mono s80.ex
          replace st := st.go s80 go0
          replace w := s80.ok
          have sj67 := s80
          replace r77 := r77.mono sj67.ex
          cases r77
          refine h_gname ?_
          refine h_set ?_
          refine h_lst ?_
          refine h_cons ?_
          refine h_var rfl ?_
          refine h_nil ?_
          refine h_newM w (ds := (([x75] : List Int)).map enc) (K := K) (.cons (Rep.int _) .nil) (fun p84 H85 hn88 s86 m87 => ?_) (by show 1 ≤ sizeLine; decide)
          have n89 := st.nn hn88
          have n90 := sj67.nn hn88
          replace r18 := r18.mono s86.ex
          replace st := st.go s86 go0
          replace sj67 := sj67.go s86 go0
          replace w := s86.ok
          refine h_set ?_
          refine h_call ?_
          refine h_cons ?_
          refine h_var rfl ?_
          refine h_cons ?_
          refine h_var rfl ?_
          refine h_nil ?_
          refine ⟨B78, p84, ([x75] : List Int), v17, x13.1, w, rfl, m87, r18, (P.bind).mono (fun x91 P => ?_) (fun _ z => z)⟩
          refine fun v95 B92 H93 s94 m87 r96 => ?_
          replace r18 := r18.mono s94.ex
          replace st := st.go s94 (go1 (.inr n89))
          replace sj67 := sj67.go s94 (go1 (.inr n90))
          replace w := s94.ok
          refine h_if ?_
          refine h_tor ?_
          refine h_tnot ?_
          refine h_tB ?_
          refine h_call ?_
          refine h_cons ?_
          refine h_var rfl ?_
          refine h_cons ?_
          refine h_var rfl ?_
          refine h_nil ?_
          refine ⟨B92, v17, x13.1, v95, x91.1, w, rfl, r18, r96, (P.bind).mono (fun x97 P => ?_) (fun _ z => z)⟩
          refine fun v101 B98 H99 s100 r102 => ?_
          replace r18 := r18.mono s100.ex
          replace m87 := m87.step s100 nm0
          replace r96 := r96.mono s100.ex
          replace st := st.go s100 go0
          replace sj67 := sj67.go s100 go0
          replace w := s100.ok
          cases r102
          refine h_bl ?_
          refine h_iteN (fun c1 => ?_) (fun c1 => ?_)
          · replace P := P.iteF c1
            refine h_iteT ?_
            refine h_ret ?_
            refine h_c ?_
            exact (kr72 _ P.ok) _ _ _ st (Rep.bl _)
          · replace P := P.iteT c1
            refine h_tnot ?_
            refine h_tB ?_
            refine h_call ?_
            refine h_cons ?_
            refine h_var rfl ?_
            refine h_cons ?_
            refine h_var rfl ?_
            refine h_nil ?_
            refine ⟨B98, v95, x91.1, v17, x13.1, w, rfl, r96, r18, (P.bind).mono (fun x103 P => ?_) (fun _ z => z)⟩
            refine fun v107 B104 H105 s106 r108 => ?_
            replace r18 := r18.mono s106.ex
            replace m87 := m87.step s106 nm0
            replace r96 := r96.mono s106.ex
            replace st := st.go s106 go0
            replace sj67 := sj67.go s106 go0
            replace w := s106.ok
            cases r108
            refine h_bl ?_
            refine h_iteN (fun c1 => ?_) (fun c1 => ?_)
            · replace P := P.iteF c1
              refine h_ret ?_
              refine h_c ?_
              exact (kr72 _ P.ok) _ _ _ st (Rep.bl _)
            · replace P := P.iteT c1
              refine h_next ?_
              refine h_nx ?_
              exact kk71 () _ _ ⟨_, _, _, _, sj67, rfl⟩ P.ok
        · rintro a109 _ H111 ⟨B110, o113, o114, o115, s112, rfl⟩ P
          replace r18 := r18.mono s112.ex
          replace st := st.go s112 go0
          replace w := s112.ok
          refine h_nx ?_
          refine h_ret ?_
          refine h_op ?_
          refine h_callK0 ?_
          refine h_cons ?_
          refine h_var rfl ?_
          refine h_cons ?_
          refine h_var rfl ?_
          refine h_nil ?_
          refine ⟨B110, v17, x13.1, v17, x13.1, w, rfl, (Rep.bor0 w r18), (Rep.bor0 w r18), (P.bind.noErr).mono (fun x116 P => ?_) (fun _ z => z.elim)⟩
          refine fun v120 B117 H118 s119 r121 => ?_
          replace r18 := r18.mono s119.ex
          replace st := st.go s119 go0
          replace w := s119.ok
          refine h_c ?_
          refine h_isN r121 ?_
          exact P.ok _ _ _ st (Rep.bl _)
end
end A
set_option Elab.async false
set_option linter.all false
set_option maxRecDepth 100000
set_option maxHeartbeats 2000000
namespace Y
open PySem PySem.Spec PyProof.Rows L2
open Enc (enc)
/-! # plain mathematics over mirrors -/
/-- m gives a value, and φ of it -/
def Ok {α : Type} (m : Res α) (φ : α → Prop) : Prop := ∃ a, m = .ok a ∧ φ a
section
variable {α β : Type} {m : Res α} {φ φ' : α → Prop} {k : α → Res β} {ψ : β → Prop} {a : α} {c : Bool} {i : Int} {l : List α}
theorem Ok.pure (h : φ a) : Ok (.ok a) φ := ⟨a, rfl, h⟩
theorem Ok.bind (h : Ok m φ) (hk : ∀ a, φ a → Ok (k a) ψ) : Ok (m.bind k) ψ := by
  obtain ⟨a, e, p⟩ := h
  rw [e]
  exact hk a p
theorem Ok.bindE (e : m = .ok a) (h : Ok (k a) ψ) : Ok (m.bind k) ψ := by rw [e]; exact h
theorem Ok.mono (h : Ok m φ) (hk : ∀ a, φ a → φ' a) : Ok m φ' := by
  obtain ⟨a, e, p⟩ := h
  exact ⟨a, e, hk a p⟩
theorem Ok.ite {m m' : Res α} (h1 : c = true → Ok m φ) (h2 : c = false → Ok m' φ) : Ok (if c = true then m else m') φ := by
  cases c
  · rw [if_neg Bool.false_ne_true]; exact h2 rfl
  · rw [if_pos rfl]; exact h1 rfl
theorem Ok.iteT {m m' : Res α} (hc : c = true) (h : Ok m φ) : Ok (if c = true then m else m') φ := by
  rw [if_pos hc]; exact h
theorem Ok.iteF {m m' : Res α} (hc : c = false) (h : Ok m' φ) : Ok (if c = true then m else m') φ := by
  rw [hc, if_neg Bool.false_ne_true]; exact h
theorem Ok.guard {p : Prop} [Decidable p] (hp : p) (h : Ok m φ) : Ok (guardR p m) φ := by
  unfold guardR; rw [if_pos hp]; exact h
theorem Ok.lt {d : α} (h : Ok (k d) ψ) : Ok (Y.lt d k) ψ := h
theorem Ok.noErr (h : Ok m φ) : Ok m.noErr φ := by
  obtain ⟨a, e, p⟩ := h
  exact ⟨a, by rw [e]; rfl, p⟩
theorem atI_in (h0 : 0 ≤ i) (h1 : i < (l.length : Int)) : ∃ x, atI l i = some x ∧ l[i.toNat]? = some x ∧ x ∈ l := by
  have h2 : i.toNat < l.length := by omega
  have e : ixN l.length i = some i.toNat := by unfold ixN; rw [if_pos h0, if_pos h1]
  refine ⟨l[i.toNat], ?_, List.getElem?_eq_getElem h2, List.getElem_mem h2⟩
  unfold atI
  rw [e]
  exact List.getElem?_eq_getElem h2
theorem Ok.ix (h0 : 0 ≤ i) (h1 : i < (l.length : Int)) (h : ∀ x, x ∈ l → l[i.toNat]? = some x → Ok (k x) ψ) : Ok ((ixR l i).bind k) ψ := by
  obtain ⟨x, e, e2, m⟩ := atI_in h0 h1
  unfold ixR
  rw [e]
  exact h x m e2
theorem Ok.ixs {x : α} (e : ixR l i = .ok x) (h : Ok (k x) ψ) : Ok ((ixR l i).bind k) ψ := by rw [e]; exact h
/-- an item of a written list -/
theorem Ok.ixm (h0 : 0 ≤ i) (h1 : i < (l.length : Int)) (h : ∀ x, x ∈ l → Ok (k x) ψ) : Ok ((ixR l i).bind k) ψ := Ok.ix h0 h1 fun x m _ => h x m
/-- a loop that keeps I and ends by itself -/
theorem Ok.for {S R : Type} {f : α → S → Res (Fl S R)} (I : S → Prop) (hf : ∀ x s, x ∈ l → I s → Ok (f x s) fun r => ∃ s', r = .nx s' ∧ I s') : ∀ {s : S}, I s → Ok (forR l s f) fun r => ∃ s', r = .nx s' ∧ I s' := by
  induction l with
  | nil => intro s h; exact ⟨_, rfl, s, rfl, h⟩
  | cons x xs ih =>
    intro s h
    refine Ok.bind (hf x s List.mem_cons_self h) ?_
    rintro r ⟨s', rfl, h'⟩
    exact ih (fun y s m h => hf y s (List.mem_cons_of_mem _ m) h) h'
/-- a comprehension: each turn gives a good thing and keeps I -/
theorem Ok.compL {S R : Type} {f : α → S → Res (Option R × S)} (I : S → Prop) (G : R → Prop) (hf : ∀ x s, x ∈ l → I s → Ok (f x s) fun r => I r.2 ∧ ∀ b, r.1 = some b → G b) : ∀ {s : S}, I s → Ok (compL l s f) fun r => I r.2 ∧ ∀ b ∈ r.1, G b := by
  induction l with
  | nil => intro s h; exact ⟨_, rfl, h, fun _ m => nomatch m⟩
  | cons x xs ih =>
    intro s h
    refine Ok.bind (hf x s List.mem_cons_self h) ?_
    rintro ⟨o, s'⟩ ⟨h', g⟩
    refine Ok.bind (ih (fun y s m h => hf y s (List.mem_cons_of_mem _ m) h) h') ?_
    rintro ⟨bs, s2⟩ ⟨h2, g2⟩
    refine ⟨_, rfl, h2, fun b m => ?_⟩
    cases o with
    | none => exact g2 b m
    | some b0 =>
      rcases List.mem_cons.mp m with e | m
      · rw [e]; exact g b0 rfl
      · exact g2 b m
theorem Ok.comp {S R : Type} {f : α → S → Res (Option R × S)} {s : S} (hl : l.length ≤ 1000000) (I : S → Prop) (G : R → Prop) (hf : ∀ x s, x ∈ l → I s → Ok (f x s) fun r => I r.2 ∧ ∀ b, r.1 = some b → G b) (h : I s) : Ok (compR l s f) fun r => I r.2 ∧ ∀ b ∈ r.1, G b := Ok.guard hl (Ok.compL I G hf h)
/-- .. and no more things than turns -/
theorem Ok.compLen {S R : Type} {f : α → S → Res (Option R × S)} {s : S} (hl : l.length ≤ 1000000) (I : S → Prop) (G : R → Prop) (hf : ∀ x s, x ∈ l → I s → Ok (f x s) fun r => I r.2 ∧ ∀ b, r.1 = some b → G b) (h : I s) : Ok (compR l s f) fun r => I r.2 ∧ (∀ b ∈ r.1, G b) ∧ r.1.length ≤ l.length := by
  refine Ok.guard hl ?_
  clear hl
  induction l generalizing s with
  | nil => exact ⟨_, rfl, h, (fun _ m => nomatch m), Nat.le_refl _⟩
  | cons x xs ih =>
    refine Ok.bind (hf x s List.mem_cons_self h) ?_
    rintro ⟨o, s'⟩ ⟨h', g⟩
    refine Ok.bind (ih (fun y s m h => hf y s (List.mem_cons_of_mem _ m) h) h') ?_
    rintro ⟨bs, s2⟩ ⟨h2, g2, g3⟩
    refine ⟨_, rfl, h2, fun b m => ?_, ?_⟩
    · cases o with
      | none => exact g2 b m
      | some b0 =>
        rcases List.mem_cons.mp m with e | m
        · rw [e]; exact g b0 rfl
        · exact g2 b m
    · cases o with
      | none => exact Nat.le_succ_of_le g3
      | some b0 => exact Nat.succ_le_succ g3
end
theorem log2_small {n b : Nat} (h : n < 2 ^ b) (h0 : 0 < b) : n.log2 < b := PySem.Flt.log2_lt_of h0 h
theorem mulW {i j : Int} {a b : Nat} (ha : i.natAbs < 2 ^ a) (hb : j.natAbs < 2 ^ b) (h0 : 0 < a := by decide) (h1 : 0 < b := by decide) (h : a + b ≤ 1000000 := by decide) : CMulW i j := wide_mul ha hb h0 h1 h
theorem divW {i j : Int} {b : Nat} (h : 0 < j) (hb : j.natAbs < 2 ^ b) (h0 : 0 < b := by decide) (h9 : b ≤ 9000 := by decide) : CDivW i j := wide_div h hb h0 h9
theorem cutL_mem {α : Type} {l : List α} {lo hi : Option Int} {x : α} (h : x ∈ cutL l lo hi) : x ∈ l := List.mem_of_mem_drop (List.mem_of_mem_take h)
theorem cutL_len {α : Type} {l : List α} {lo hi : Option Int} : (cutL l lo hi).length ≤ l.length := by
  unfold cutL
  rw [List.length_take, List.length_drop]
  omega
mutual
theorem eqv_refl : ∀ d : D, flatD d = true → PyData.eqv (pyD d) (pyD d) = true
  | .non, _ => rfl
  | .bl b, _ => by show (b == b) = true; simp
  | .int i, _ => by show (i == i) = true; simp
  | .str x, _ => by show (x == x) = true; simp
  | .lst ds, h => eqvs_refl ds h
  | .tup ds, h => eqvs_refl ds h
  | .dic _, h => nomatch h
theorem eqvs_refl : ∀ ds : List D, flatDs ds = true → PyData.eqvAll (pyDs ds) (pyDs ds) = true
  | [], _ => rfl
  | d :: ds, h => by
    have h' : (flatD d && flatDs ds) = true := h
    rw [Bool.and_eq_true] at h'
    show (PyData.eqv (pyD d) (pyD d) && PyData.eqvAll (pyDs ds) (pyDs ds)) = true
    rw [eqv_refl d h'.1, eqvs_refl ds h'.2]
    rfl
end
theorem eqD_refl {d : D} (h : flatD d = true) : eqD d d = true := eqv_refl d h
theorem flat_ints : ∀ l : List Int, flatDs (l.map enc) = true
  | [] => rfl
  | i :: l => by show (flatD (.int i) && flatDs (l.map enc)) = true; rw [flat_ints l]; rfl

mutual
/-- data that may be compared: no dict, texts plain, not deep -/
def eqOk (n : Nat) : D → Bool
  | .lst ds => match n with | 0 => false | n + 1 => eqOks n ds
  | .tup ds => match n with | 0 => false | n + 1 => eqOks n ds
  | .dic _ => false
  | .str x => PyData.strOk x
  | _ => true
def eqOks (n : Nat) : List D → Bool
  | [] => true
  | d :: ds => eqOk n d && eqOks n ds
end
mutual
theorem eqOk_flat : ∀ (d : D) (n : Nat), eqOk n d = true → flatD d = true ∧ (pyD d).canLay0 = true ∧ (pyD d).depth ≤ n
  | .non, _, _ => ⟨rfl, rfl, Nat.zero_le _⟩
  | .bl _, _, _ => ⟨rfl, rfl, Nat.zero_le _⟩
  | .int _, _, _ => ⟨rfl, rfl, Nat.zero_le _⟩
  | .str _, _, h => ⟨rfl, h, Nat.zero_le _⟩
  | .lst ds, n + 1, h => let ⟨a, b, c⟩ := eqOks_flat ds n h; ⟨a, b, Nat.succ_le_succ c⟩
  | .tup ds, n + 1, h => let ⟨a, b, c⟩ := eqOks_flat ds n h; ⟨a, b, Nat.succ_le_succ c⟩
  | .lst _, 0, h => nomatch h
  | .tup _, 0, h => nomatch h
  | .dic _, _, h => nomatch h
theorem eqOks_flat : ∀ (ds : List D) (n : Nat), eqOks n ds = true → flatDs ds = true ∧ PyData.canLayAll0 (pyDs ds) = true ∧ PyData.depthAll (pyDs ds) ≤ n
  | [], _, _ => ⟨rfl, rfl, Nat.zero_le _⟩
  | d :: ds, n, h => by
    have h' : (eqOk n d && eqOks n ds) = true := h
    rw [Bool.and_eq_true] at h'
    obtain ⟨a, b, c⟩ := eqOk_flat d n h'.1
    obtain ⟨a', b', c'⟩ := eqOks_flat ds n h'.2
    refine ⟨?_, ?_, ?_⟩
    · show (flatD d && flatDs ds) = true; rw [a, a']; rfl
    · show (PyData.canLay0 (pyD d) && PyData.canLayAll0 (pyDs ds)) = true; rw [b, b']; rfl
    · exact Nat.max_le.mpr ⟨c, c'⟩
end
theorem okEq_of {d e : D} (h : eqOk 20 d = true) (h' : eqOk 20 e = true) : okEq d e := by
  obtain ⟨a, b, c⟩ := eqOk_flat d 20 h
  obtain ⟨a', b', c'⟩ := eqOk_flat e 20 h'
  refine ⟨a, a', ?_, ?_⟩
  · unfold SeqAt.shaped; rw [b, decide_eq_true (Nat.le_trans c (by decide))]; rfl
  · unfold SeqAt.shaped; rw [b', decide_eq_true (Nat.le_trans c' (by decide))]; rfl
theorem eqOk_ints : ∀ (l : List Int) (n : Nat), eqOks n (l.map enc) = true
  | [], _ => rfl
  | i :: l, n => by show (eqOk n (.int i) && eqOks n (l.map enc)) = true; rw [eqOk_ints l n]; rfl
/-- a comprehension without a state whose turns give values -/
theorem compL_map {α β : Type} {f : α → Unit → Res (Option β × Unit)} {g : α → β} : ∀ {l : List α}, (∀ x ∈ l, f x () = .ok (some (g x), ())) → compL l () f = .ok (l.map g, ())
  | [], _ => rfl
  | x :: xs, h => by
    unfold compL
    rw [h x List.mem_cons_self]
    show ((compL xs () f).bind fun q => .ok (g x :: q.1, q.2)) = _
    rw [compL_map fun y m => h y (List.mem_cons_of_mem _ m)]
    rfl
theorem compR_map {α β : Type} {f : α → Unit → Res (Option β × Unit)} {g : α → β} {l : List α} (hl : l.length ≤ 1000000) (h : ∀ x ∈ l, f x () = .ok (some (g x), ())) : compR l () f = .ok (l.map g, ()) := by
  unfold compR guardR
  rw [if_pos hl, compL_map h]
def smallD (d : D) : Prop := match d with | .lst ds => ds.length ≤ 1000000 | _ => True
end Y

set_option Elab.async false
set_option linter.all false
set_option maxRecDepth 100000
set_option maxHeartbeats 2000000
namespace A
open PySem PySem.Spec PyProof.Rows L2 Y
open Y.Enc (enc)
/-- a state of draws -/
def Gd (st : List Int) : Prop := st.length = 1 ∨ st.length = 3
theorem setR_in {α : Type} {l : List α} {i : Int} {x : α} (h0 : 0 ≤ i) (h1 : i < (l.length : Int)) : setR l i x = .ok (l.set i.toNat x) := by
  unfold setR
  have e : ixN l.length i = some i.toNat := by unfold ixN; rw [if_pos h0, if_pos h1]
  rw [e]
theorem Ok.set {α β : Type} {l : List α} {i : Int} {x : α} {k : List α → Res β} {ψ : β → Prop} (h0 : 0 ≤ i) (h1 : i < (l.length : Int)) (h : ∀ l', l'.length = l.length → Ok (k l') ψ) : Ok ((setR l i x).bind k) ψ := by
  rw [setR_in h0 h1]
  exact h _ (List.length_set ..)
theorem digit_ok {st : List Int} {b : Int} (h : Gd st) (hb : 0 < b) (hb2 : b.natAbs < 2 ^ 4000) : Ok (l_digit st b) fun r => (0 ≤ r.1 ∧ r.1 < b) ∧ r.2.length = 3 := by
  unfold l_digit
  refine Ok.bind (φ := fun l => l.length = 3) (Ok.ite (fun c => ?_) (fun c => ?_)) fun l hl => ?_
  · have e : st.length = 1 := by have := of_decide_eq_true c; omega
    refine Ok.ix (by decide) (by omega) fun x _ _ => Ok.guard (by simp [e]) (Ok.pure (by simp [e]))
  · have e : ¬ (st.length : Int) = 1 := of_decide_eq_false c
    refine Ok.pure ?_
    rcases h with h | h
    · exact absurd (by omega) e
    · exact h
  refine Ok.ix (by decide) (by omega) fun x _ _ => Ok.ite (fun c => ?_) (fun c => ?_)
  · refine Ok.ix (by decide) (by omega) fun y _ _ => Ok.guard hb (Ok.lt (Ok.ix (by decide) (by omega) fun z _ _ => Ok.guard (divW hb hb2) (Ok.set (by decide) (by omega) fun l' e => Ok.pure ⟨⟨Int.emod_nonneg _ (Int.ne_of_gt hb), Int.emod_lt_of_pos _ hb⟩, e.trans hl⟩)))
  · refine Ok.ix (by decide) (by omega) fun y _ _ => Ok.set (by decide) (by omega) fun l' e => Ok.ix (by decide) (by omega) fun z _ _ => Ok.ix (by decide) (by omega) fun u _ _ => Ok.lt ?_
    generalize hn : (((z + 7919 * u) + 1) * 48271) % 2147483647 = n
    have hn1 : 0 ≤ n ∧ n < 2147483647 := by subst hn; exact ⟨Int.emod_nonneg _ (by decide), Int.emod_lt_of_pos _ (by decide)⟩
    refine Ok.guard (mulW (a := 32) (b := 32) (by omega) (by omega)) (Ok.lt ?_)
    generalize hm : (n * (n / 1009 + 69621)) % 2147483647 = m
    have hm1 : 0 ≤ m ∧ m < 2147483647 := by subst hm; exact ⟨Int.emod_nonneg _ (by decide), Int.emod_lt_of_pos _ (by decide)⟩
    refine Ok.guard (mulW (a := 32) (b := 32) (by omega) (by omega)) (Ok.guard hb (Ok.pure ⟨⟨Int.emod_nonneg _ (Int.ne_of_gt hb), Int.emod_lt_of_pos _ hb⟩, e.trans hl⟩))
theorem gd3 {st : List Int} (h : st.length = 3) : Gd st := .inr h
/-- a draw -/
theorem dg {β : Type} {st : List Int} {b : Int} {k : Int × List Int → Res β} {ψ : β → Prop} (h : Gd st) (hb : 0 < b) (hb2 : b.natAbs < 2 ^ 4000) (hk : ∀ x s, 0 ≤ x → x < b → s.length = 3 → Ok (k (x, s)) ψ) : Ok ((l_digit st b).bind k) ψ :=
  Ok.bind (digit_ok h hb hb2) fun r p => hk r.1 r.2 p.1.1 p.1.2 p.2
theorem big {b : Int} {n : Nat} (h : b.natAbs < 2 ^ n) (hn : n ≤ 4000) : b.natAbs < 2 ^ 4000 := Nat.lt_of_lt_of_le h (Nat.pow_le_pow_right (by decide) hn)
theorem bg {b : Int} (h : b.natAbs < 18446744073709551616) : b.natAbs < 2 ^ 4000 := big (n := 64) h (by decide)
end A

set_option Elab.async false
set_option linter.all false
set_option maxRecDepth 100000
set_option maxHeartbeats 2000000
namespace A
open PySem PySem.Spec PyProof.Rows L2 Y
open Y.Enc (enc)
theorem abs_eq (i : Int) : absI i = (i.natAbs : Int) := by unfold absI; split <;> omega
def euF {R : Type} : Int × Int → Res (Fl (Int × Int) R) := fun a12 => (if (decide (0 < a12.2)) = true then guardR (0 < a12.2) <| lt ((a12.1 % a12.2) : Int) fun x16 => (.ok (.nx (a12.2, x16)) : Res (Fl (Int × Int) R)) else .ok (.bk (a12.1, a12.2)))
theorem euclid {R : Type} (n : Nat) : ∀ a b : Nat, b < n → whileR n ((a : Int), (b : Int)) (euF (R := R)) = .ok (.bk (((Nat.gcd a b : Nat) : Int), 0)) := by
  induction n with
  | zero => intro a b h; omega
  | succ n ih =>
    intro a b h
    unfold whileR
    by_cases hb : 0 < (b : Int)
    · have e1 : euF (R := R) ((a : Int), (b : Int)) = .ok (.nx ((b : Int), (a : Int) % (b : Int))) := by
        unfold euF
        rw [if_pos (decide_eq_true hb)]
        unfold guardR
        rw [if_pos hb]
        rfl
      rw [e1]
      show whileR n ((b : Int), (a : Int) % (b : Int)) _ = _
      have e : (a : Int) % (b : Int) = ((a % b : Nat) : Int) := (Int.natCast_emod a b).symm
      rw [e, ih b (a % b) (by have := Nat.mod_lt a (show b > 0 by omega); omega)]
      rw [Nat.gcd_comm a b, Nat.gcd_rec b a, Nat.gcd_comm]
    · have : b = 0 := by omega
      subst this
      simp [euF]
      rfl
theorem div_ok (a b : Int) : m_divisor a b = .ok (Int.gcd a b : Int) := by
  have e0 : m_divisor a b = (whileR ((absI b).natAbs + 1) (absI a, absI b) euF).bind (afterR fun a17 => .ok a17.1) := rfl
  rw [e0, abs_eq, abs_eq, Int.natAbs_natCast, euclid (b.natAbs + 1) a.natAbs b.natAbs (by omega)]
  rfl
theorem frac_facts {a b : Int} (hb : b ≠ 0) : ∃ s : Int, (if b < 0 then -(Int.gcd a b : Int) else (Int.gcd a b : Int)) = s ∧ s ≠ 0 ∧ s.natAbs ≤ b.natAbs ∧ Int.fdiv a s * s = a ∧ Int.fdiv b s * s = b ∧ 0 < Int.fdiv b s ∧ Int.gcd (Int.fdiv a s) (Int.fdiv b s) = 1 := by
  have hg : 0 < Int.gcd a b := Int.gcd_pos_of_ne_zero_right a hb
  have ha' : ((Int.gcd a b : Nat) : Int) ∣ a := Int.gcd_dvd_left ..
  have hb' : ((Int.gcd a b : Nat) : Int) ∣ b := Int.gcd_dvd_right ..
  generalize hG : Int.gcd a b = g at *
  refine ⟨_, rfl, ?_⟩
  obtain ⟨p, ep⟩ := ha'
  obtain ⟨q, eq⟩ := hb'
  have hgn : (g : Int) ≠ 0 := by omega
  have hpq : Int.gcd p q = 1 := by
    have e : Int.gcd ((g : Int) * p) ((g : Int) * q) = g := by rw [← ep, ← eq]; exact hG
    rw [Int.gcd_mul_left] at e
    have e2 : g * Int.gcd p q = g * 1 := by simpa using e
    exact Nat.eq_of_mul_eq_mul_left hg e2
  have hle : g ≤ b.natAbs := by
    rw [eq, Int.natAbs_mul]
    have : 0 < q.natAbs := Int.natAbs_pos.mpr (by rintro rfl; exact hb (by rw [eq]; simp))
    simpa using Nat.le_mul_of_pos_right g this
  by_cases hn : b < 0
  · rw [if_pos hn]
    have e1 : a = -p * -(g : Int) := by rw [ep, Int.neg_mul_neg, Int.mul_comm]
    have e2 : b = -q * -(g : Int) := by rw [eq, Int.neg_mul_neg, Int.mul_comm]
    have d1 : Int.fdiv a (-(g : Int)) = -p := by rw [e1]; exact Int.mul_fdiv_cancel _ (by omega)
    have d2 : Int.fdiv b (-(g : Int)) = -q := by rw [e2]; exact Int.mul_fdiv_cancel _ (by omega)
    rw [d1, d2]
    refine ⟨by omega, by omega, e1.symm, e2.symm, ?_, by simpa using hpq⟩
    rcases Int.lt_or_le q 0 with h | h
    · omega
    · have := Int.mul_nonneg (show (0 : Int) ≤ g by omega) h
      rw [← eq] at this
      exact absurd hn (by omega)
  · rw [if_neg hn]
    have e1 : a = p * (g : Int) := by rw [ep, Int.mul_comm]
    have e2 : b = q * (g : Int) := by rw [eq, Int.mul_comm]
    have d1 : Int.fdiv a (g : Int) = p := by rw [e1]; exact Int.mul_fdiv_cancel _ hgn
    have d2 : Int.fdiv b (g : Int) = q := by rw [e2]; exact Int.mul_fdiv_cancel _ hgn
    rw [d1, d2]
    refine ⟨hgn, by omega, e1.symm, e2.symm, ?_, hpq⟩
    rcases Int.lt_or_le 0 q with h | h
    · exact h
    · have := Int.mul_nonneg (show (0 : Int) ≤ g by omega) (show 0 ≤ -q by omega)
      rw [Int.mul_neg, ← eq] at this
      exact absurd hn (by omega)
/-- the fraction of a by b, in lowest terms -/
def FracOf (a b : Int) (f : Tp2 Int Int) : Prop := 0 < f.b ∧ Int.gcd f.a f.b = 1 ∧ f.a * b = a * f.b ∧ f.a.natAbs ≤ a.natAbs ∧ f.b.natAbs ≤ b.natAbs
theorem natAbs_le_of_mul {x s a : Int} (h : x * s = a) (hs : s ≠ 0) : x.natAbs ≤ a.natAbs := by
  rw [← h, Int.natAbs_mul]
  exact Nat.le_mul_of_pos_right _ (by omega)
/-- what both places are shared by -/
def shr (a b : Int) : Int := if b < 0 then -(Int.gcd a b : Int) else (Int.gcd a b : Int)
def lowT (a b : Int) : Tp2 Int Int := ⟨Int.fdiv a (shr a b), Int.fdiv b (shr a b)⟩
theorem shr_small {a b : Int} (hb : b ≠ 0) : shr a b ≠ 0 ∧ (shr a b).natAbs ≤ b.natAbs := by
  obtain ⟨s, e, h0, h1, _⟩ := frac_facts (a := a) hb
  unfold shr
  rw [e]
  exact ⟨h0, h1⟩
theorem lowT_of {a b : Int} (hb : b ≠ 0) : FracOf a b (lowT a b) := by
  obtain ⟨s, e, h0, h1, h2, h3, h4, h5⟩ := frac_facts (a := a) hb
  have es : shr a b = s := e
  unfold lowT
  rw [es]
  refine ⟨h4, h5, ?_, natAbs_le_of_mul h2 h0, natAbs_le_of_mul h3 h0⟩
  show Int.fdiv a s * b = a * Int.fdiv b s
  conv => lhs; rw [← h3]
  conv => rhs; rw [← h2]
  simp only [Int.mul_comm, Int.mul_left_comm, Int.mul_assoc]
theorem shr_log {a b : Int} {n : Nat} (hb : b ≠ 0) (hs : b.natAbs < 2 ^ n) (h0 : 0 < n) (h9 : n ≤ 9000) : (shr a b).natAbs.log2 < 9000 := Nat.lt_of_lt_of_le (log2_small (b := n) (Nat.lt_of_le_of_lt (shr_small hb).2 hs) h0) h9
theorem shr_bind {β : Type} {a b : Int} {k : Int → Res β} : ((if (decide (b < 0)) = true then lt ((-(Int.gcd a b : Int)) : Int) fun x28 => .ok x28 else .ok (Int.gcd a b : Int)) : Res (Int)).bind k = k (shr a b) := by
  unfold shr
  by_cases hn : b < 0
  · rw [if_pos (decide_eq_true hn), if_pos hn]; rfl
  · rw [if_neg (by simpa using hn), if_neg hn]; rfl
theorem fraction_eq {a b : Int} {n : Nat} (hb : b ≠ 0) (hs : b.natAbs < 2 ^ n) (h0 : 0 < n := by decide) (h9 : n ≤ 9000 := by decide) : m_fraction (.int a) (.int b) = .ok (lowT a b) := by
  have r : m_fraction (.int a) (.int b) = guardR (okEq (.int b) (enc (0 : Int))) (if (eqD (.int b) (enc (0 : Int))) = true then .err ⟨"NoFraction", []⟩ else ((m_divisor a b).noErr).bind fun x19 => ((if (decide (b < 0)) = true then lt ((-x19) : Int) fun x28 => .ok x28 else .ok x19) : Res (Int)).bind fun a29 => guardR (CDivZ a a29) <| guardR (CDivZ b a29) <| .ok (⟨(Int.fdiv a a29), (Int.fdiv b a29)⟩ : (Tp2 Int Int))) := rfl
  rw [r]
  unfold guardR
  rw [if_pos (okEq_of rfl rfl), if_neg (show ¬ (eqD (.int b) (enc (0 : Int)) = true) from fun h => hb (of_decide_eq_true h)), div_ok]
  show (((if (decide (b < 0)) = true then lt ((-(Int.gcd a b : Int)) : Int) fun x28 => .ok x28 else .ok (Int.gcd a b : Int)) : Res (Int)).bind _) = _
  rw [shr_bind, if_pos ⟨(shr_small hb).1, shr_log hb hs h0 h9⟩, if_pos ⟨(shr_small hb).1, shr_log hb hs h0 h9⟩]
  rfl
theorem dvd_of_cop {q p r : Int} (h : q ∣ p * r) (hg : Int.gcd p q = 1) : q ∣ r := by
  have h1 : q.natAbs ∣ p.natAbs * r.natAbs := by rw [← Int.natAbs_mul]; exact Int.natAbs_dvd_natAbs.mpr h
  have h2 : Nat.Coprime q.natAbs p.natAbs := (Nat.gcd_comm ..).trans hg
  exact Int.natAbs_dvd_natAbs.mp (Nat.Coprime.dvd_of_dvd_mul_left h2 h1)
theorem uniq {p q p' q' : Int} (h : p * q' = p' * q) (hg : Int.gcd p q = 1) (hg' : Int.gcd p' q' = 1) (hq : 0 < q) (hq' : 0 < q') : p = p' ∧ q = q' := by
  have d1 : q ∣ q' := dvd_of_cop ⟨p', by rw [h, Int.mul_comm]⟩ hg
  have d2 : q' ∣ q := dvd_of_cop ⟨p, by rw [← h, Int.mul_comm]⟩ hg'
  have e : q = q' := Int.dvd_antisymm (by omega) (by omega) d1 d2
  subst e
  exact ⟨Int.eq_of_mul_eq_mul_right (by omega) h, rfl⟩
/-- in lowest terms -/
def Low (f : Tp2 Int Int) : Prop := 0 < f.b ∧ Int.gcd f.a f.b = 1
theorem low_eq {f : Tp2 Int Int} {a b : Int} (hf : Low f) (hb : b ≠ 0) (h : f.a * b = a * f.b) : lowT a b = f := by
  obtain ⟨h1, h2, h3, _, _⟩ := lowT_of (a := a) hb
  generalize lowT a b = g at *
  obtain ⟨p, q⟩ := g
  obtain ⟨u, v⟩ := f
  obtain ⟨hv, hg⟩ := hf
  simp only at *
  have e : p * v = u * q := by
    apply Int.eq_of_mul_eq_mul_right hb
    grind
  obtain ⟨rfl, rfl⟩ := uniq e h2 hg h1 hv
  rfl
end A

set_option Elab.async false
set_option linter.all false
set_option maxRecDepth 100000
set_option maxHeartbeats 2000000
namespace A
/-! # edits over plain fractions -/
structure Er where
  s : Rat
  b : Option Rat
  r : Rat
def byR (e : Er) (t : Rat) : Option Rat := match e.b with | none => none | some x => some (x + e.r * t)
def ledR : List Er → Rat → Option Rat
  | [], _ => none
  | e :: l, t => if t < e.s then byR e t else ledR l (t - e.s)
def sumR : List Er → Rat | [] => 0 | e :: l => e.s + sumR l
structure GoodE (e : Er) : Prop where
  s : 0 < e.s
  r : 0 ≤ e.r
  b : ∀ x, e.b = some x → 0 ≤ x
  n : e.b = none → e.r = 0
def onB (e f : Er) : Bool := match e.b, f.b with
  | none, none => true
  | some x, some y => decide (e.r = f.r) && decide (y = x + e.r * e.s)
  | _, _ => false
def mergeR (a e : Er) : Er := ⟨a.s + e.s, a.b, a.r⟩
def pushR (st : List Er) (e : Er) : List Er := match st with
  | [] => [e]
  | a :: r => if onB a e = true then mergeR a e :: r else e :: a :: r
def noLast : List Er → List Er | [] => [] | a :: r => if a.b = none then r else a :: r
theorem noLast_cons (a : Er) (r : List Er) : noLast (a :: r) = if a.b = none then r else a :: r := rfl
def tidyR (l : List Er) : List Er := (noLast (l.foldl pushR [])).reverse
def TidyR : List Er → Prop
  | [] => True
  | [e] => e.b ≠ none
  | e :: f :: l => onB e f = false ∧ TidyR (f :: l)
theorem onB_merge (b a e : Er) : onB b (mergeR a e) = onB b a := rfl
theorem ledR_congr {m m' : List Er} (h : ∀ t, ledR m t = ledR m' t) : ∀ (l : List Er) (t : Rat), ledR (l ++ m) t = ledR (l ++ m') t
  | [], t => h t
  | e :: l, t => by
    show (if t < e.s then byR e t else ledR (l ++ m) (t - e.s)) = (if t < e.s then byR e t else ledR (l ++ m') (t - e.s))
    rw [ledR_congr h l]
theorem led_merge {a e : Er} (h : onB a e = true) (he : 0 < e.s) (l : List Er) (t : Rat) : ledR (mergeR a e :: l) t = ledR (a :: e :: l) t := by
  show (if t < a.s + e.s then byR (mergeR a e) t else ledR l (t - (a.s + e.s))) = (if t < a.s then byR a t else if t - a.s < e.s then byR e (t - a.s) else ledR l (t - a.s - e.s))
  have e1 : t - (a.s + e.s) = t - a.s - e.s := by grind
  by_cases c : t < a.s
  · rw [if_pos c, if_pos (show t < a.s + e.s by grind)]; rfl
  · rw [if_neg c, e1]
    by_cases c2 : t - a.s < e.s
    · rw [if_pos c2, if_pos (show t < a.s + e.s by grind)]
      show byR a t = byR e (t - a.s)
      unfold onB at h
      unfold byR
      revert h
      cases a.b <;> cases e.b <;> intro h <;> simp only [Bool.and_eq_true, decide_eq_true_eq] at h ⊢
      · contradiction
      · contradiction
      · rename_i x y
        obtain ⟨h1, h2⟩ := h
        rw [h2, ← h1]
        congr 1
        grind
    · rw [if_neg c2, if_neg (show ¬ t < a.s + e.s by grind)]
theorem led_push {st : List Er} {e : Er} (he : 0 < e.s) (l : List Er) (t : Rat) : ledR ((pushR st e).reverse ++ l) t = ledR (st.reverse ++ e :: l) t := by
  unfold pushR
  cases st with
  | nil => rfl
  | cons a r =>
    simp only
    by_cases c : onB a e = true
    · rw [if_pos c]
      simp only [List.reverse_cons, List.append_assoc, List.singleton_append]
      exact ledR_congr (fun t => led_merge c he l t) _ t
    · rw [if_neg c]
      simp only [List.reverse_cons, List.append_assoc, List.singleton_append, List.cons_append, List.nil_append]
theorem led_fold : ∀ (l st : List Er), (∀ e ∈ l, 0 < e.s) → ∀ t, ledR (l.foldl pushR st).reverse t = ledR (st.reverse ++ l) t
  | [], st, _, t => by rw [List.append_nil]; rfl
  | e :: l, st, h, t => by
    rw [List.foldl_cons, led_fold l _ (fun y m => h y (List.mem_cons_of_mem _ m)), led_push (h e List.mem_cons_self)]
theorem led_blank {e : Er} (h : e.b = none) : ∀ (l : List Er) (t : Rat), ledR (l ++ [e]) t = ledR l t
  | [], t => by
    show (if t < e.s then byR e t else none) = none
    have : byR e t = none := by unfold byR; rw [h]
    rw [this]
    split <;> rfl
  | a :: l, t => by
    show (if t < a.s then byR a t else ledR (l ++ [e]) (t - a.s)) = (if t < a.s then byR a t else ledR l (t - a.s))
    rw [led_blank h l]
theorem led_noLast (st : List Er) (t : Rat) : ledR (noLast st).reverse t = ledR st.reverse t := by
  cases st with
  | nil => rfl
  | cons a r =>
    rw [noLast_cons]
    by_cases c : a.b = none
    · rw [if_pos c, List.reverse_cons, led_blank c]
    · rw [if_neg c]
/-- a tidied list leads alike -/
theorem led_tidy {l : List Er} (h : ∀ e ∈ l, 0 < e.s) (t : Rat) : ledR (tidyR l) t = ledR l t := by
  unfold tidyR
  rw [led_noLast, led_fold l [] h]
  rfl
def SOk : List Er → Prop
  | [] => True
  | [_] => True
  | a :: b :: r => onB b a = false ∧ SOk (b :: r)
theorem push_ok {st : List Er} {e : Er} (h : SOk st) : SOk (pushR st e) := by
  unfold pushR
  cases st with
  | nil => trivial
  | cons a r =>
    simp only
    by_cases c : onB a e = true
    · rw [if_pos c]
      cases r with
      | nil => trivial
      | cons b r => exact ⟨by rw [onB_merge]; exact h.1, h.2⟩
    · rw [if_neg c]
      exact ⟨by simpa using c, h⟩
theorem fold_ok : ∀ (l st : List Er), SOk st → SOk (l.foldl pushR st)
  | [], _, h => h
  | _ :: l, _, h => fold_ok l _ (push_ok h)
theorem SOk.tail {a : Er} {r : List Er} (h : SOk (a :: r)) : SOk r := by
  cases r with
  | nil => trivial
  | cons b r => exact h.2
theorem rev_tidy : ∀ (st l : List Er), SOk st → TidyR l → (∀ a r, st = a :: r → match l with | [] => a.b ≠ none | f :: _ => onB a f = false) → TidyR (st.reverse ++ l)
  | [], l, _, hl, _ => hl
  | a :: r, l, h, hl, hh => by
    rw [List.reverse_cons, List.append_assoc]
    refine rev_tidy r (a :: l) h.tail ?_ ?_
    · have := hh a r rfl
      cases l with
      | nil => exact this
      | cons f l => exact ⟨this, hl⟩
    · rintro b r' rfl
      exact h.1
theorem noLast_ok {st : List Er} (h : SOk st) : SOk (noLast st) := by
  cases st with
  | nil => trivial
  | cons a r =>
    rw [noLast_cons]
    by_cases c : a.b = none
    · rw [if_pos c]; exact h.tail
    · rw [if_neg c]; exact h
theorem tidy_tidy (l : List Er) : TidyR (tidyR l) := by
  have h0 := fold_ok l [] trivial
  unfold tidyR
  generalize l.foldl pushR [] = st at *
  have := rev_tidy (noLast st) [] (noLast_ok h0) trivial ?_
  · rw [List.append_nil] at this; exact this
  rintro a r e
  cases st with
  | nil => exact nomatch e
  | cons b q =>
    rw [noLast_cons] at e
    by_cases c : b.b = none
    · rw [if_pos c] at e
      subst e
      have := h0.1
      unfold onB at this
      rw [c] at this
      intro z
      rw [z] at this
      exact nomatch this
    · rw [if_neg c] at e
      cases e
      exact c
theorem push_good {st : List Er} {e : Er} (h : ∀ x ∈ st, GoodE x) (he : GoodE e) : ∀ x ∈ pushR st e, GoodE x := by
  intro x m
  unfold pushR at m
  cases st with
  | nil => rw [List.mem_singleton.mp m]; exact he
  | cons a r =>
    simp only at m
    by_cases c : onB a e = true
    · rw [if_pos c] at m
      rcases List.mem_cons.mp m with rfl | m
      · have ha := h a List.mem_cons_self
        exact ⟨by show 0 < a.s + e.s; have := ha.s; have := he.s; grind, ha.r, ha.b, ha.n⟩
      · exact h x (List.mem_cons_of_mem _ m)
    · rw [if_neg c] at m
      rcases List.mem_cons.mp m with rfl | m
      · exact he
      · exact h x m
theorem fold_good : ∀ (l st : List Er), (∀ x ∈ st, GoodE x) → (∀ x ∈ l, GoodE x) → ∀ x ∈ l.foldl pushR st, GoodE x
  | [], _, h, _ => h
  | e :: l, st, h, hl => fold_good l _ (push_good h (hl e List.mem_cons_self)) fun y m => hl y (List.mem_cons_of_mem _ m)
theorem noLast_mem {st : List Er} {x : Er} (m : x ∈ noLast st) : x ∈ st := by
  cases st with
  | nil => exact m
  | cons a r =>
    rw [noLast_cons] at m
    by_cases c : a.b = none
    · rw [if_pos c] at m; exact List.mem_cons_of_mem _ m
    · rw [if_neg c] at m; exact m
theorem tidy_good {l : List Er} (h : ∀ x ∈ l, GoodE x) : ∀ x ∈ tidyR l, GoodE x := fun x m =>
  fold_good l [] (fun _ m => nomatch m) h x (noLast_mem (List.mem_reverse.mp m))
theorem led_cons_lt {e : Er} {l : List Er} {t : Rat} (h : t < e.s) : ledR (e :: l) t = byR e t := if_pos h
theorem led_cons_ge {e : Er} {l : List Er} {t : Rat} (h : e.s ≤ t) : ledR (e :: l) t = ledR l (t - e.s) := if_neg (show ¬ t < e.s by grind)
/-- two edits that lead alike from 0 to somewhere start alike -/
theorem by_eq {e f : Er} {w : Rat} (he : GoodE e) (hf : GoodE f) (hw : 0 < w) (h : ∀ t, 0 ≤ t → t < w → byR e t = byR f t) : e.b = f.b ∧ e.r = f.r := by
  have h0 := h 0 (by grind) hw
  have h1 := h (w / 2) (by grind) (by grind)
  have en := he.n
  have fn := hf.n
  unfold byR at h0 h1
  revert h0 h1 en fn
  cases e.b <;> cases f.b <;> intro h0 h1 en fn <;> simp only [Option.some.injEq, reduceCtorEq] at *
  · exact ⟨trivial, by rw [en trivial, fn trivial]⟩
  · rename_i x y
    have exy : x = y := by grind
    refine ⟨exy, ?_⟩
    subst exy
    have e1 : e.r * (w / 2) = f.r * (w / 2) := by grind
    have e2 : (e.r - f.r) * (w / 2) = 0 := by grind
    rcases Rat.mul_eq_zero.mp e2 with z | z
    · grind
    · grind
theorem tidy_tail {e : Er} {l : List Er} (h : TidyR (e :: l)) : TidyR l := by
  cases l with
  | nil => trivial
  | cons f l => exact h.2
/-- a tidy list that leads nowhere is empty -/
theorem tidy_nil {l : List Er} (h : TidyR l) (g : ∀ e ∈ l, GoodE e) (z : ∀ t, 0 ≤ t → ledR l t = none) : l = [] := by
  cases l with
  | nil => rfl
  | cons e l =>
    exfalso
    have ge := g e List.mem_cons_self
    have e0 := z 0 (by grind)
    rw [led_cons_lt ge.s] at e0
    have eb : e.b = none := by
      unfold byR at e0
      revert e0
      cases e.b with
      | none => intro _; rfl
      | some x => intro q; exact nomatch q
    cases l with
    | nil => exact h eb
    | cons f l =>
      have gf := g f (List.mem_cons_of_mem _ List.mem_cons_self)
      have f0 := z e.s (by have := ge.s; grind)
      rw [led_cons_ge (by grind), led_cons_lt (by have := gf.s; grind)] at f0
      have h1 := h.1
      unfold onB at h1
      unfold byR at f0
      rw [eb] at h1
      revert f0 h1
      cases f.b with
      | none => intro _ q; exact nomatch q
      | some x => intro q; exact nomatch q
/-- the head of the shorter span: it can't be -/
theorem tidy_short {e f : Er} {l m : List Er} (hl : TidyR (e :: l)) (gl : ∀ x ∈ e :: l, GoodE x) (gm : ∀ x ∈ f :: m, GoodE x) (z : ∀ t, 0 ≤ t → ledR (e :: l) t = ledR (f :: m) t) (c : e.s < f.s) : False := by
  have ge := gl e List.mem_cons_self
  have gf := gm f List.mem_cons_self
  have se := ge.s
  obtain ⟨q1, q2⟩ := by_eq ge gf se fun t h0 h1 => by
    have := z t h0
    rw [led_cons_lt h1, led_cons_lt (by grind)] at this
    exact this
  cases l with
  | nil =>
    have := z e.s (by grind)
    rw [led_cons_ge (by grind), led_cons_lt c] at this
    have eb : f.b = none := by
      unfold byR at this
      revert this
      cases f.b with
      | none => intro _; rfl
      | some x => intro q; exact nomatch q
    exact hl (q1.trans eb)
  | cons g l =>
    have gg := gl g (List.mem_cons_of_mem _ List.mem_cons_self)
    have sg := gg.s
    -- the second edit goes on where the first one ends
    let f' : Er := ⟨f.s - e.s, match f.b with | none => none | some x => some (x + f.r * e.s), f.r⟩
    have gf' : GoodE f' := by
      refine ⟨by show 0 < f.s - e.s; grind, gf.r, ?_, ?_⟩
      · intro x hx
        have : (match f.b with | none => none | some x => some (x + f.r * e.s)) = some x := hx
        revert this
        cases fb : f.b with
        | none => intro q; exact nomatch q
        | some y =>
          intro q
          cases q
          have h1 := gf.b y fb
          have h2 := Rat.mul_nonneg gf.r (show 0 ≤ e.s by grind)
          grind
      · intro hx
        have : (match f.b with | none => none | some x => some (x + f.r * e.s)) = none := hx
        refine gf.n ?_
        revert this
        cases fb : f.b with
        | none => intro q; rfl
        | some y => intro q; exact nomatch q
    have hw : 0 < min g.s (f.s - e.s) := by grind
    obtain ⟨r1, r2⟩ := by_eq gg gf' hw fun t h0 h1 => by
      have := z (e.s + t) (by grind)
      rw [led_cons_ge (by grind), led_cons_lt (by grind), led_cons_lt (by grind)] at this
      rw [show e.s + t - e.s = t by grind] at this
      rw [this]
      unfold byR
      show _ = match (match f.b with | none => none | some x => some (x + f.r * e.s)) with | none => none | some x => some (x + f.r * t)
      cases f.b with
      | none => rfl
      | some x => show some _ = some _; congr 1; grind
    have h1 := hl.1
    have r1' : g.b = match f.b with | none => none | some x => some (x + f.r * e.s) := r1
    have r2' : g.r = f.r := r2
    unfold onB at h1
    rw [r1', q1] at h1
    revert h1
    cases f.b with
    | none => intro q; exact nomatch q
    | some x => simp [q2, r2']
/-- two tidy lists that lead alike are one -/
theorem tidy_uniq : ∀ {l m : List Er}, TidyR l → TidyR m → (∀ e ∈ l, GoodE e) → (∀ e ∈ m, GoodE e) → (∀ t, 0 ≤ t → ledR l t = ledR m t) → l = m
  | [], m, _, hm, _, gm, z => (tidy_nil hm gm fun t h => (z t h).symm).symm
  | e :: l, [], hl, _, gl, _, z => tidy_nil hl gl fun t h => z t h
  | e :: l, f :: m, hl, hm, gl, gm, z => by
    have c1 : ¬ e.s < f.s := fun c => tidy_short hl gl gm z c
    have c2 : ¬ f.s < e.s := fun c => tidy_short hm gm gl (fun t h => (z t h).symm) c
    have es : e.s = f.s := by grind
    have ge := gl e List.mem_cons_self
    have gf := gm f List.mem_cons_self
    have se := ge.s
    obtain ⟨q1, q2⟩ := by_eq ge gf se fun t h0 h1 => by
      have := z t h0
      rw [led_cons_lt h1, led_cons_lt (by grind)] at this
      exact this
    have ef : e = f := by
      cases e; cases f
      simp only at *
      rw [es, q1, q2]
    have := tidy_uniq (tidy_tail hl) (tidy_tail hm) (fun x m => gl x (List.mem_cons_of_mem _ m)) (fun x m => gm x (List.mem_cons_of_mem _ m)) fun t h => by
      have := z (t + e.s) (by grind)
      rw [led_cons_ge (by grind), led_cons_ge (by grind)] at this
      rw [show t + e.s - e.s = t by grind, show t + e.s - f.s = t by grind] at this
      exact this
    rw [ef, this]
theorem tidy_of_tidy {l : List Er} (h : TidyR l) (g : ∀ e ∈ l, GoodE e) : tidyR l = l :=
  tidy_uniq (tidy_tidy l) h (tidy_good g) g fun t _ => led_tidy (fun e m => (g e m).s) t
end A

set_option Elab.async false
set_option linter.all false
set_option maxRecDepth 100000
set_option maxHeartbeats 2000000
namespace A
theorem sumR_nn : ∀ {l : List Er}, (∀ e ∈ l, 0 < e.s) → 0 ≤ sumR l
  | [], _ => Rat.le_refl
  | e :: l, h => by
    have := h e List.mem_cons_self
    have := sumR_nn fun y m => h y (List.mem_cons_of_mem e m)
    show 0 ≤ e.s + sumR l
    grind
theorem sumR_app : ∀ (l m : List Er), sumR (l ++ m) = sumR l + sumR m
  | [], m => by show sumR m = 0 + sumR m; grind
  | e :: l, m => by show e.s + sumR (l ++ m) = e.s + sumR l + sumR m; rw [sumR_app l m]; grind
theorem led_beyond : ∀ {l : List Er} {t : Rat}, sumR l ≤ t → (∀ e ∈ l, 0 < e.s) → ledR l t = none
  | [], _, _, _ => rfl
  | e :: l, t, h, g => by
    have nn := sumR_nn fun y m => g y (List.mem_cons_of_mem e m)
    have h' : e.s + sumR l ≤ t := h
    rw [led_cons_ge (by grind)]
    exact led_beyond (by grind) fun y m => g y (List.mem_cons_of_mem _ m)
theorem led_app : ∀ (l m : List Er) (t : Rat), 0 ≤ t → (∀ e ∈ l, 0 < e.s) → ledR (l ++ m) t = if t < sumR l then ledR l t else ledR m (t - sumR l)
  | [], m, t, h, _ => by
    show ledR m t = if t < 0 then none else ledR m (t - 0)
    rw [if_neg (show ¬ t < 0 by grind)]
    rw [show t - 0 = t by grind]
  | e :: l, m, t, h, g => by
    have g' := fun y m => g y (List.mem_cons_of_mem e m)
    have nn := sumR_nn g'
    show (if t < e.s then byR e t else ledR (l ++ m) (t - e.s)) = (if t < e.s + sumR l then (if t < e.s then byR e t else ledR l (t - e.s)) else ledR m (t - (e.s + sumR l)))
    by_cases c : t < e.s
    · rw [if_pos c, if_pos (show t < e.s + sumR l by grind), if_pos c]
    · rw [if_neg c, led_app l m (t - e.s) (by grind) g']
      by_cases c2 : t - e.s < sumR l
      · rw [if_pos c2, if_pos (show t < e.s + sumR l by grind), if_neg c]
      · rw [if_neg c2, if_neg (show ¬ t < e.s + sumR l by grind), show t - e.s - sumR l = t - (e.s + sumR l) by grind]
/-- what the moments from lo on, below hi, are led to; b: where the list begins -/
def piecesR : List Er → Rat → Rat → Rat → List Er
  | [], b, lo, hi => if max b lo < hi then [⟨hi - max b lo, none, 0⟩] else []
  | e :: l, b, lo, hi => (if max b lo < min (b + e.s) hi then [⟨min (b + e.s) hi - max b lo, byR e (max b lo - b), e.r⟩] else []) ++ piecesR l (b + e.s) lo hi
theorem pieces_none : ∀ {l : List Er} {b lo hi : Rat}, hi ≤ max b lo → (∀ e ∈ l, 0 < e.s) → piecesR l b lo hi = []
  | [], b, lo, hi, h, _ => if_neg (by grind)
  | e :: l, b, lo, hi, h, g => by
    have := g e List.mem_cons_self
    show (if max b lo < min (b + e.s) hi then _ else []) ++ piecesR l (b + e.s) lo hi = []
    rw [if_neg (by grind), pieces_none (by grind) fun y m => g y (List.mem_cons_of_mem _ m)]
    rfl
theorem pieces_sum : ∀ {l : List Er} {b lo hi : Rat}, max b lo < hi → (∀ e ∈ l, 0 < e.s) → sumR (piecesR l b lo hi) = hi - max b lo
  | [], b, lo, hi, h, _ => by
    show sumR (if max b lo < hi then [⟨hi - max b lo, none, 0⟩] else []) = _
    rw [if_pos h]
    show hi - max b lo + 0 = _
    grind
  | e :: l, b, lo, hi, h, g => by
    have ge := g e List.mem_cons_self
    have g' := fun y m => g y (List.mem_cons_of_mem e m)
    show sumR ((if max b lo < min (b + e.s) hi then [⟨min (b + e.s) hi - max b lo, byR e (max b lo - b), e.r⟩] else []) ++ piecesR l (b + e.s) lo hi) = _
    rw [sumR_app]
    by_cases c : max b lo < min (b + e.s) hi
    · rw [if_pos c]
      show (min (b + e.s) hi - max b lo + 0) + _ = _
      by_cases c2 : max (b + e.s) lo < hi
      · rw [pieces_sum c2 g']; grind
      · rw [pieces_none (by grind) g']; show _ + (0 : Rat) = _; grind
    · rw [if_neg c, pieces_sum (by grind) g']
      show (0 : Rat) + _ = _
      grind
theorem pieces_led : ∀ {l : List Er} {b lo hi t : Rat}, max b lo < hi → (∀ e ∈ l, 0 < e.s) → 0 ≤ t → ledR (piecesR l b lo hi) t = if t < hi - max b lo then ledR l (max b lo + t - b) else none
  | [], b, lo, hi, t, h, _, _ => by
    show ledR (if max b lo < hi then [⟨hi - max b lo, none, 0⟩] else []) t = _
    rw [if_pos h]
    show (if t < hi - max b lo then none else none) = (if t < hi - max b lo then none else none)
    rfl
  | e :: l, b, lo, hi, t, h, g, h0 => by
    have ge := g e List.mem_cons_self
    have g' := fun y m => g y (List.mem_cons_of_mem e m)
    show ledR ((if max b lo < min (b + e.s) hi then [⟨min (b + e.s) hi - max b lo, byR e (max b lo - b), e.r⟩] else []) ++ piecesR l (b + e.s) lo hi) t = if t < hi - max b lo then (if max b lo + t - b < e.s then byR e (max b lo + t - b) else ledR l (max b lo + t - b - e.s)) else none
    by_cases c : max b lo < min (b + e.s) hi
    · rw [if_pos c]
      show (if t < min (b + e.s) hi - max b lo then byR ⟨min (b + e.s) hi - max b lo, byR e (max b lo - b), e.r⟩ t else ledR (piecesR l (b + e.s) lo hi) (t - (min (b + e.s) hi - max b lo))) = _
      by_cases c1 : t < min (b + e.s) hi - max b lo
      · rw [if_pos c1, if_pos (by grind), if_pos (by grind)]
        unfold byR
        cases e.b with
        | none => rfl
        | some x => show some _ = some _; congr 1; grind
      · rw [if_neg c1]
        by_cases c2 : max (b + e.s) lo < hi
        · rw [pieces_led c2 g' (by grind)]
          by_cases c3 : t < hi - max b lo
          · rw [if_pos (by grind), if_pos c3, if_neg (by grind)]
            congr 1
            grind
          · rw [if_neg (by grind), if_neg c3]
        · rw [pieces_none (by grind) g', if_neg (by grind)]
          rfl
    · rw [if_neg c]
      show ledR (piecesR l (b + e.s) lo hi) t = _
      rw [pieces_led (by grind) g' h0]
      by_cases c3 : t < hi - max b lo
      · rw [if_pos (by grind), if_pos c3, if_neg (by grind)]
        congr 1
        grind
      · rw [if_neg (by grind), if_neg c3]
theorem pieces_good : ∀ {l : List Er} {b lo hi : Rat}, (∀ e ∈ l, GoodE e) → ∀ e ∈ piecesR l b lo hi, GoodE e
  | [], b, lo, hi, _, e, m => by
    have m' : e ∈ (if max b lo < hi then [⟨hi - max b lo, none, 0⟩] else ([] : List Er)) := m
    by_cases c : max b lo < hi
    · rw [if_pos c] at m'
      rw [List.mem_singleton.mp m']
      exact ⟨(by show 0 < hi - max b lo; grind), Rat.le_refl, (fun _ q => nomatch q), fun _ => rfl⟩
    · rw [if_neg c] at m'; exact nomatch m'
  | a :: l, b, lo, hi, g, e, m => by
    have ga := g a List.mem_cons_self
    have m' : e ∈ (if max b lo < min (b + a.s) hi then [⟨min (b + a.s) hi - max b lo, byR a (max b lo - b), a.r⟩] else []) ++ piecesR l (b + a.s) lo hi := m
    rcases List.mem_append.mp m' with m | m
    · by_cases c : max b lo < min (b + a.s) hi
      · rw [if_pos c] at m
        rw [List.mem_singleton.mp m]
        refine ⟨by show 0 < min (b + a.s) hi - max b lo; grind, ga.r, ?_, ?_⟩
        · intro x hx
          have hx' : byR a (max b lo - b) = some x := hx
          unfold byR at hx'
          revert hx'
          cases ab : a.b with
          | none => intro q; exact nomatch q
          | some y =>
            intro q
            cases q
            have h1 := ga.b y ab
            have h2 := Rat.mul_nonneg ga.r (show 0 ≤ max b lo - b by grind)
            grind
        · intro hx
          have hx' : byR a (max b lo - b) = none := hx
          unfold byR at hx'
          refine ga.n ?_
          revert hx'
          cases ab : a.b with
          | none => intro q; rfl
          | some y => intro q; exact nomatch q
      · rw [if_neg c] at m; exact nomatch m
    · exact pieces_good (fun y m => g y (List.mem_cons_of_mem _ m)) e m
/-- one edit led on by others -/
def paceR (r : Rat) (e : Er) : Er := ⟨e.s / r, e.b, r * e.r⟩
def throughR (inner : List Er) (e : Er) : List Er := match e.b with
  | none => [e]
  | some x => if e.r = 0 then [⟨e.s, ledR inner x, 0⟩] else (piecesR inner 0 x (x + e.r * e.s)).map (paceR e.r)
def overR (outer inner : List Er) : List Er := tidyR (outer.flatMap (throughR inner))
theorem pace_led {r : Rat} (hr : 0 < r) : ∀ (l : List Er) (t : Rat), ledR (l.map (paceR r)) t = ledR l (r * t)
  | [], _ => rfl
  | e :: l, t => by
    show (if t < e.s / r then byR (paceR r e) t else ledR (l.map (paceR r)) (t - e.s / r)) = (if r * t < e.s then byR e (r * t) else ledR l (r * t - e.s))
    have li : t < e.s / r ↔ r * t < e.s := Rat.lt_div_iff' hr
    by_cases c : r * t < e.s
    · rw [if_pos c, if_pos (li.mpr c)]
      unfold byR
      show (match e.b with | none => none | some x => some (x + r * e.r * t)) = _
      cases e.b with
      | none => rfl
      | some x => show some _ = some _; congr 1; grind
    · rw [if_neg c, if_neg (fun q => c (li.mp q)), pace_led hr l]
      congr 1
      have : r * (e.s / r) = e.s := by rw [Rat.mul_comm]; exact Rat.div_mul_cancel (by grind)
      grind
theorem pace_sum {r : Rat} (hr : 0 < r) : ∀ (l : List Er), r * sumR (l.map (paceR r)) = sumR l
  | [] => by show r * 0 = 0; grind
  | e :: l => by
    show r * (e.s / r + sumR (l.map (paceR r))) = e.s + sumR l
    have : r * (e.s / r) = e.s := by rw [Rat.mul_comm]; exact Rat.div_mul_cancel (by grind)
    have := pace_sum hr l
    grind
theorem byR_some {e : Er} {x : Rat} (h : e.b = some x) (t : Rat) : byR e t = some (x + e.r * t) := by unfold byR; rw [h]
theorem byR_none {e : Er} (h : e.b = none) (t : Rat) : byR e t = none := by unfold byR; rw [h]
theorem through_none {inner : List Er} {e : Er} (h : e.b = none) : throughR inner e = [e] := by unfold throughR; rw [h]
theorem through_dwell {inner : List Er} {e : Er} {x : Rat} (h : e.b = some x) (hr : e.r = 0) : throughR inner e = [⟨e.s, ledR inner x, 0⟩] := by unfold throughR; rw [h]; exact if_pos hr
theorem through_run {inner : List Er} {e : Er} {x : Rat} (h : e.b = some x) (hr : e.r ≠ 0) : throughR inner e = (piecesR inner 0 x (x + e.r * e.s)).map (paceR e.r) := by unfold throughR; rw [h]; exact if_neg hr
theorem through_sum {inner : List Er} {e : Er} (gi : ∀ y ∈ inner, 0 < y.s) (ge : GoodE e) : sumR (throughR inner e) = e.s := by
  cases hb : e.b with
  | none => rw [through_none hb]; show e.s + 0 = e.s; grind
  | some x =>
    by_cases hr : e.r = 0
    · rw [through_dwell hb hr]; show e.s + 0 = e.s; grind
    · rw [through_run hb hr]
      have h0 := ge.b x hb
      have hs := ge.s
      have hr' : 0 < e.r := by have := ge.r; grind
      have hp := Rat.mul_pos hr' hs
      have h1 := pace_sum hr' (piecesR inner 0 x (x + e.r * e.s))
      rw [pieces_sum (by grind) gi, show max 0 x = x by grind, show x + e.r * e.s - x = e.r * e.s by grind] at h1
      have : e.r * (sumR ((piecesR inner 0 x (x + e.r * e.s)).map (paceR e.r)) - e.s) = 0 := by grind
      rcases Rat.mul_eq_zero.mp this with z | z
      · exact absurd z hr
      · grind
theorem through_led {inner : List Er} {e : Er} {t : Rat} (gi : ∀ y ∈ inner, 0 < y.s) (ge : GoodE e) (h0 : 0 ≤ t) (h1 : t < e.s) : ledR (throughR inner e) t = (byR e t).bind (ledR inner) := by
  cases hb : e.b with
  | none => rw [through_none hb, byR_none hb, led_cons_lt h1, byR_none hb]; rfl
  | some x =>
    rw [byR_some hb]
    by_cases hr : e.r = 0
    · rw [through_dwell hb hr, led_cons_lt (e := ⟨e.s, ledR inner x, 0⟩) h1, hr]
      show byR ⟨e.s, ledR inner x, 0⟩ t = ledR inner (x + 0 * t)
      rw [show x + 0 * t = x by grind]
      unfold byR
      show (match ledR inner x with | none => none | some y => some (y + 0 * t)) = _
      cases ledR inner x with
      | none => rfl
      | some y => show some _ = some _; congr 1; grind
    · rw [through_run hb hr]
      have hx := ge.b x hb
      have hr' : 0 < e.r := by have := ge.r; grind
      have hp := Rat.mul_pos hr' ge.s
      have hp2 := Rat.mul_nonneg ge.r h0
      have hlt := Rat.mul_lt_mul_of_pos_left h1 hr'
      rw [pace_led hr', pieces_led (by grind) gi hp2, show max 0 x = x by grind, if_pos (by grind)]
      show ledR inner (x + e.r * t - 0) = ledR inner (x + e.r * t)
      congr 1
      grind
theorem pace_good {r : Rat} (hr : 0 < r) {e : Er} (h : GoodE e) : GoodE (paceR r e) := by
  refine ⟨?_, Rat.mul_nonneg (by grind) h.r, h.b, fun q => ?_⟩
  · show 0 < e.s / r
    rw [Rat.div_def]
    exact Rat.mul_pos h.s (Rat.inv_pos.mpr hr)
  · show r * e.r = 0
    rw [h.n q]
    grind
theorem led_nn {l : List Er} (g : ∀ e ∈ l, GoodE e) : ∀ {t x : Rat}, 0 ≤ t → ledR l t = some x → 0 ≤ x := by
  induction l with
  | nil => intro t x _ q; exact nomatch q
  | cons e l ih =>
    intro t x h0 q
    have ge := g e List.mem_cons_self
    by_cases c : t < e.s
    · rw [led_cons_lt c] at q
      unfold byR at q
      revert q
      cases eb : e.b with
      | none => intro q; exact nomatch q
      | some y =>
        intro q
        cases q
        have := ge.b y eb
        have := Rat.mul_nonneg ge.r h0
        grind
    · rw [led_cons_ge (by grind)] at q
      exact ih (fun y m => g y (List.mem_cons_of_mem _ m)) (by grind) q
theorem through_good {inner : List Er} {e : Er} (gi : ∀ y ∈ inner, GoodE y) (ge : GoodE e) : ∀ y ∈ throughR inner e, GoodE y := by
  intro y m
  cases hb : e.b with
  | none => rw [through_none hb] at m; rw [List.mem_singleton.mp m]; exact ge
  | some x =>
    by_cases hr : e.r = 0
    · rw [through_dwell hb hr] at m
      rw [List.mem_singleton.mp m]
      exact ⟨ge.s, Rat.le_refl, fun z q => led_nn gi (ge.b x hb) q, fun _ => rfl⟩
    · rw [through_run hb hr] at m
      obtain ⟨z, mz, rfl⟩ := List.mem_map.mp m
      exact pace_good (by have := ge.r; grind) (pieces_good gi z mz)
theorem flat_good {inner outer : List Er} (gi : ∀ y ∈ inner, GoodE y) (go : ∀ y ∈ outer, GoodE y) : ∀ y ∈ outer.flatMap (throughR inner), GoodE y := by
  intro y m
  obtain ⟨e, me, m⟩ := List.mem_flatMap.mp m
  exact through_good gi (go e me) y m
theorem flat_led {inner : List Er} (gi : ∀ y ∈ inner, GoodE y) : ∀ {outer : List Er} {t : Rat}, (∀ y ∈ outer, GoodE y) → 0 ≤ t → ledR (outer.flatMap (throughR inner)) t = (ledR outer t).bind (ledR inner)
  | [], t, _, _ => rfl
  | e :: l, t, go, h0 => by
    have gi' := fun y m => (gi y m).s
    have ge := go e List.mem_cons_self
    have gl := fun y m => go y (List.mem_cons_of_mem e m)
    rw [List.flatMap_cons, led_app _ _ _ h0 (fun y m => (through_good gi ge y m).s), through_sum gi' ge]
    by_cases c : t < e.s
    · rw [if_pos c, led_cons_lt c, through_led gi' ge h0 c]
    · rw [if_neg c, led_cons_ge (by grind), flat_led gi gl (by grind)]
theorem over_led {outer inner : List Er} {t : Rat} (gi : ∀ y ∈ inner, GoodE y) (go : ∀ y ∈ outer, GoodE y) (h0 : 0 ≤ t) : ledR (overR outer inner) t = (ledR outer t).bind (ledR inner) := by
  unfold overR
  rw [led_tidy fun e m => (flat_good gi go e m).s, flat_led gi go h0]
theorem over_good {outer inner : List Er} (gi : ∀ y ∈ inner, GoodE y) (go : ∀ y ∈ outer, GoodE y) : ∀ y ∈ overR outer inner, GoodE y := tidy_good (flat_good gi go)
def partR (l : List Er) (lo hi : Rat) : List Er := tidyR (piecesR l 0 lo hi)
theorem part_led {l : List Er} {lo hi t : Rat} (g : ∀ y ∈ l, GoodE y) (h : lo < hi) (hl : 0 ≤ lo) (h0 : 0 ≤ t) : ledR (partR l lo hi) t = if t < hi - lo then ledR l (lo + t) else none := by
  unfold partR
  rw [led_tidy fun e m => (pieces_good g e m).s, pieces_led (by grind) (fun e m => (g e m).s) h0, show max 0 lo = lo by grind, show lo + t - 0 = lo + t by grind]
theorem part_good {l : List Er} {lo hi : Rat} (g : ∀ y ∈ l, GoodE y) : ∀ y ∈ partR l lo hi, GoodE y := tidy_good (pieces_good g)
theorem after_led {l m : List Er} {t : Rat} (g : ∀ y ∈ l, GoodE y) (g' : ∀ y ∈ m, GoodE y) (h0 : 0 ≤ t) : ledR (tidyR (l ++ m)) t = if t < sumR l then ledR l t else ledR m (t - sumR l) := by
  rw [led_tidy (fun e q => (List.mem_append.mp q).elim (fun q => (g e q).s) fun q => (g' e q).s), led_app _ _ _ h0 fun e q => (g e q).s]
end A

set_option Elab.async false
set_option linter.all false
set_option maxRecDepth 100000
set_option maxHeartbeats 2000000
namespace A
open PySem PySem.Spec PyProof.Rows L2 Y
open Y.Enc (enc)
/-! # fractions as they are handed about: the pair of a Rat -/
abbrev Fr := Tp2 Int Int
abbrev Ed := Tp3 Fr (Option Fr) Fr
def F (q : Rat) : Fr := ⟨q.num, (q.den : Int)⟩
def G (e : Er) : Ed := ⟨F e.s, e.b.map F, F e.r⟩
theorem den_pos (q : Rat) : (0 : Int) < (q.den : Int) := by have := q.den_nz; omega
theorem F_low (q : Rat) : Low (F q) := ⟨den_pos q, q.reduced⟩
theorem F_inj {p q : Rat} (h : F p = F q) : p = q := by
  have h1 : p.num = q.num := congrArg Tp2.a h
  have h2 : (p.den : Int) = (q.den : Int) := congrArg Tp2.b h
  exact Rat.ext h1 (by omega)
theorem lowT_F {a b : Int} (hb : b ≠ 0) : lowT a b = F (Rat.divInt a b) := by
  refine low_eq (F_low _) hb ?_
  have e := Rat.num_divInt_den (Rat.divInt a b)
  have hd : ((Rat.divInt a b).den : Int) ≠ 0 := by have := den_pos (Rat.divInt a b); omega
  exact (Rat.divInt_eq_divInt_iff hd hb).mp e
theorem lowT_add (p q : Rat) : lowT (p.num * (q.den : Int) + q.num * (p.den : Int)) ((p.den : Int) * (q.den : Int)) = F (p + q) := by
  have hp := den_pos p
  have hq := den_pos q
  rw [lowT_F (by have := Int.mul_pos hp hq; omega), ← Rat.divInt_add_divInt _ _ (by omega) (by omega), Rat.num_divInt_den, Rat.num_divInt_den]
theorem lowT_sub (p q : Rat) : lowT (p.num * (q.den : Int) - q.num * (p.den : Int)) ((p.den : Int) * (q.den : Int)) = F (p - q) := by
  have hp := den_pos p
  have hq := den_pos q
  rw [lowT_F (by have := Int.mul_pos hp hq; omega), ← Rat.divInt_sub_divInt _ _ (by omega) (by omega), Rat.num_divInt_den, Rat.num_divInt_den]
theorem lowT_mul (p q : Rat) : lowT (p.num * q.num) ((p.den : Int) * (q.den : Int)) = F (p * q) := by
  have hp := den_pos p
  have hq := den_pos q
  rw [lowT_F (by have := Int.mul_pos hp hq; omega), ← Rat.divInt_mul_divInt, Rat.num_divInt_den, Rat.num_divInt_den]
theorem lowT_div (p q : Rat) (h : q ≠ 0) : lowT (p.num * (q.den : Int)) ((p.den : Int) * q.num) = F (p / q) := by
  have hp := den_pos p
  have hn : q.num ≠ 0 := fun z => h (Rat.num_eq_zero.mp z)
  rw [lowT_F (fun z => (Int.mul_eq_zero.mp z).elim (by omega) hn), ← Rat.divInt_mul_divInt, Rat.num_divInt_den, Rat.div_def, Rat.inv_def]
/-! ## sizes -/
def Sz (q : Rat) : Prop := q.num.natAbs < 2 ^ 4400 ∧ q.den < 2 ^ 4400
def Dv (D N : Nat) (q : Rat) : Prop := ∃ k : Int, q * (D : Rat) = (k : Rat) ∧ k.natAbs ≤ N * D
section
variable {D E N M : Nat} {p q : Rat}
theorem Dv.add (h : Dv D N p) (h' : Dv D M q) : Dv D (N + M) (p + q) := by
  obtain ⟨k, e, b⟩ := h
  obtain ⟨k', e', b'⟩ := h'
  refine ⟨k + k', ?_, ?_⟩
  · rw [Rat.intCast_add]; grind
  · rw [Nat.add_mul]; omega
theorem Dv.sub (h : Dv D N p) (h' : Dv D M q) : Dv D (N + M) (p - q) := by
  obtain ⟨k, e, b⟩ := h
  obtain ⟨k', e', b'⟩ := h'
  refine ⟨k - k', ?_, ?_⟩
  · rw [Rat.intCast_sub]; grind
  · rw [Nat.add_mul]; omega
theorem Dv.mul (h : Dv D N p) (h' : Dv E M q) : Dv (D * E) (N * M) (p * q) := by
  obtain ⟨k, e, b⟩ := h
  obtain ⟨k', e', b'⟩ := h'
  refine ⟨k * k', ?_, ?_⟩
  · rw [Rat.intCast_mul, Rat.natCast_mul]; grind
  · rw [Int.natAbs_mul, show N * M * (D * E) = (N * D) * (M * E) by grind]
    exact Nat.mul_le_mul b b'
theorem Dv.up (h : Dv D N p) (hn : N ≤ M) : Dv D M p := by
  obtain ⟨k, e, b⟩ := h
  exact ⟨k, e, Nat.le_trans b (Nat.mul_le_mul_right _ hn)⟩
theorem Dv.den (h : Dv D N p) (hd : D ∣ E) : Dv E N p := by
  obtain ⟨k, e, b⟩ := h
  obtain ⟨c, rfl⟩ := hd
  refine ⟨k * (c : Int), ?_, ?_⟩
  · rw [Rat.intCast_mul, Rat.natCast_mul, Rat.intCast_natCast]; grind
  · rw [Int.natAbs_mul, Int.natAbs_natCast, ← Nat.mul_assoc]
    exact Nat.mul_le_mul_right _ b
theorem Dv.to (h : Dv D N p) (hd : D ∣ E) (hn : N ≤ M) : Dv E M p := (h.den hd).up hn
theorem Dv.mid (h : Dv D N p) (h' : Dv D M q) (h0 : 0 ≤ q) (h1 : q ≤ p) : Dv D N q := by
  obtain ⟨k, e, b⟩ := h
  obtain ⟨k', e', b'⟩ := h'
  have hd : (0 : Rat) ≤ (D : Rat) := Rat.natCast_nonneg
  have a1 : (0 : Rat) ≤ (k' : Rat) := by rw [← e']; exact Rat.mul_nonneg h0 hd
  have a2 : (k' : Rat) ≤ (k : Rat) := by rw [← e', ← e]; exact Rat.mul_le_mul_of_nonneg_right h1 hd
  have a1' := Rat.intCast_nonneg.mp a1
  have a2' := Rat.intCast_le_intCast.mp a2
  exact ⟨k', e', by omega⟩
theorem Dv.of {a b : Int} (hb : 0 < b) (hd : b.toNat ∣ D) (h : a.natAbs ≤ N * b.toNat) : Dv D N (Rat.divInt a b) := by
  obtain ⟨c, rfl⟩ := hd
  have eb : ((b.toNat : Nat) : Int) = b := by omega
  refine ⟨a * (c : Int), ?_, ?_⟩
  · rw [Rat.intCast_mul, Rat.natCast_mul, Rat.intCast_natCast, ← Rat.intCast_natCast b.toNat, eb, Rat.divInt_eq_div]
    have hb' : (b : Rat) ≠ 0 := fun z => by have := Rat.intCast_eq_zero_iff.mp z; omega
    have := Rat.div_mul_cancel (a := (a : Rat)) hb'
    grind
  · rw [Int.natAbs_mul, Int.natAbs_natCast, ← Nat.mul_assoc]
    exact Nat.mul_le_mul_right _ h
theorem Dv.int {a : Int} (h : a.natAbs ≤ N) : Dv D N (a : Rat) := ⟨a * (D : Int), by rw [Rat.intCast_mul, Rat.intCast_natCast], by rw [Int.natAbs_mul, Int.natAbs_natCast]; exact Nat.mul_le_mul_right _ h⟩
theorem Dv.bound (h : Dv D N q) (h0 : 0 < D) : q.num.natAbs ≤ N * D ∧ q.den ≤ D := by
  obtain ⟨k, e, b⟩ := h
  have hD : (D : Rat) ≠ 0 := fun z => by have := Rat.natCast_eq_zero_iff.mp z; omega
  have eq : q = Rat.divInt k (D : Int) := by
    rw [Rat.divInt_eq_div, Rat.intCast_natCast, ← e]
    exact (Rat.mul_div_cancel hD).symm
  have hl := lowT_of (a := k) (b := (D : Int)) (by omega)
  rw [lowT_F (by omega), ← eq] at hl
  have h1 := hl.2.2.2.1
  have h2 := hl.2.2.2.2
  have h1' : q.num.natAbs ≤ k.natAbs := h1
  have h2' : ((q.den : Int)).natAbs ≤ ((D : Int)).natAbs := h2
  rw [Int.natAbs_natCast, Int.natAbs_natCast] at h2'
  exact ⟨Nat.le_trans h1' b, h2'⟩
theorem Dv.sz (h : Dv D N q) (h0 : 0 < D) (h1 : D < 2 ^ 4400) (h2 : N * D < 2 ^ 4400) : Sz q :=
  ⟨Nat.lt_of_le_of_lt (h.bound h0).1 h2, Nat.lt_of_le_of_lt (h.bound h0).2 h1⟩
end
/-- what fits: every product of two of its numbers, too -/
structure Big (D N : Nat) : Prop where
  p : 0 < D
  d : D < 2 ^ 1700
  n : N < 2 ^ 400
theorem mul_lt_pow {a b m n : Nat} (h : a < 2 ^ m) (h' : b < 2 ^ n) : a * b < 2 ^ (m + n) := by
  rw [Nat.pow_add]
  exact Nat.mul_lt_mul'' h h'
theorem pow_up {a m n : Nat} (h : a < 2 ^ m) (hm : m ≤ n) : a < 2 ^ n := Nat.lt_of_lt_of_le h (Nat.pow_le_pow_right (by decide) hm)
section
variable {D N : Nat} {p q : Rat}
theorem Big.sz (b : Big D N) (h : Dv D N q) : Sz q := h.sz b.p (pow_up b.d (by decide)) (pow_up (mul_lt_pow b.n b.d) (by decide))
theorem Big.sz2 (b : Big D N) (h : Dv D N p) (h' : Dv D N q) : Sz (p * q) :=
  (h.mul h').sz (Nat.mul_pos b.p b.p) (pow_up (mul_lt_pow b.d b.d) (by decide)) (pow_up (mul_lt_pow (mul_lt_pow b.n b.n) (mul_lt_pow b.d b.d)) (by decide))
end
theorem m2 {x y : Int} {m n : Nat} (h : x.natAbs < 2 ^ m) (h' : y.natAbs < 2 ^ n) : (x * y).natAbs < 2 ^ (m + n) := L2.wide_lt h h'
theorem up {x : Int} {m n : Nat} (h : x.natAbs < 2 ^ m) (hm : m ≤ n) : x.natAbs < 2 ^ n := Nat.lt_of_lt_of_le h (Nat.pow_le_pow_right (by decide) hm)
theorem cw {x y : Int} {m n : Nat} (h : x.natAbs < 2 ^ m) (h' : y.natAbs < 2 ^ n) (h0 : 0 < m := by decide) (h1 : 0 < n := by decide) (h2 : m + n ≤ 1000000 := by decide) : CMulW x y := mulW h h' h0 h1 h2
theorem lowest_eq {a b : Int} (h : 0 < b) (hs : b.natAbs < 2 ^ 8800) : l_lowest a b = .ok (lowT a b) := by
  have e0 : l_lowest a b = (l_shared a b).bind fun x1 => guardR (CDivW a x1) <| guardR (CDivW b x1) <| .ok (⟨(a / x1), (b / x1)⟩ : Fr) := rfl
  have e1 : l_shared a b = .ok (Int.gcd a b : Int) := div_ok a b
  rw [e0, e1]
  have hg : 0 < Int.gcd a b := Int.gcd_pos_of_ne_zero_right a (by omega)
  have es : shr a b = ((Int.gcd a b : Nat) : Int) := by unfold shr; rw [if_neg (by omega)]
  have hs2 := (shr_small (a := a) (b := b) (by omega)).2
  rw [es] at hs2
  have c : CDivW a ((Int.gcd a b : Nat) : Int) := divW (by omega) (b := 8800) (Nat.lt_of_le_of_lt hs2 hs)
  show guardR (CDivW a ((Int.gcd a b : Nat) : Int)) (guardR (CDivW b ((Int.gcd a b : Nat) : Int)) (.ok (⟨a / ((Int.gcd a b : Nat) : Int), b / ((Int.gcd a b : Nat) : Int)⟩ : Fr))) = _
  unfold guardR
  rw [if_pos c, if_pos (show CDivW b ((Int.gcd a b : Nat) : Int) from c)]
  unfold lowT
  rw [es, Int.fdiv_eq_ediv_of_nonneg a (by omega), Int.fdiv_eq_ediv_of_nonneg b (by omega)]
theorem frac_eq {a b : Int} (h : 0 < b) (hs : b.natAbs < 2 ^ 8800) : m_fraction (enc (a : Int)) (enc (b : Int)) = .ok (lowT a b) := fraction_eq (by omega) hs
/-- the law's fraction of a by b -/
theorem lowest_F {a b : Int} (h : 0 < b) (hs : b.natAbs < 2 ^ 8800) : l_lowest a b = .ok (F (Rat.divInt a b)) := by rw [lowest_eq h hs, lowT_F (by omega)]
section
variable {p q : Rat}
theorem Sz.a (h : Sz p) : (F p).a.natAbs < 2 ^ 4400 := h.1
theorem Sz.b (h : Sz p) : (F p).b.natAbs < 2 ^ 4400 := by show ((p.den : Int)).natAbs < 2 ^ 4400; rw [Int.natAbs_natCast]; exact h.2
theorem mplus (hp : Sz p) (hq : Sz q) : m_plus (F p) (F q) = .ok (F (p + q)) := by
  unfold m_plus guardR
  rw [if_pos (cw hp.a hq.b), if_pos (cw hq.a hp.b), if_pos (cw hp.b hq.b), frac_eq (Int.mul_pos (F_low p).1 (F_low q).1) (m2 hp.b hq.b)]
  exact congrArg Res.ok (lowT_add p q)
theorem mtimes (hp : Sz p) (hq : Sz q) : m_times (F p) (F q) = .ok (F (p * q)) := by
  unfold m_times guardR
  rw [if_pos (cw hp.a hq.a), if_pos (cw hp.b hq.b), frac_eq (Int.mul_pos (F_low p).1 (F_low q).1) (m2 hp.b hq.b)]
  exact congrArg Res.ok (lowT_mul p q)
theorem lplus (hp : Sz p) (hq : Sz q) : l_plus (F p) (F q) = .ok (F (p + q)) := by
  unfold l_plus guardR
  rw [if_pos (cw hp.a hq.b), if_pos (cw hq.a hp.b), if_pos (cw hp.b hq.b), lowest_eq (Int.mul_pos (F_low p).1 (F_low q).1) (m2 hp.b hq.b)]
  exact congrArg Res.ok (lowT_add p q)
theorem lminus (hp : Sz p) (hq : Sz q) : l_minus (F p) (F q) = .ok (F (p - q)) := by
  unfold l_minus guardR
  rw [if_pos (cw hp.a hq.b), if_pos (cw hq.a hp.b), if_pos (cw hp.b hq.b), lowest_eq (Int.mul_pos (F_low p).1 (F_low q).1) (m2 hp.b hq.b)]
  exact congrArg Res.ok (lowT_sub p q)
theorem ltimes (hp : Sz p) (hq : Sz q) : l_times (F p) (F q) = .ok (F (p * q)) := by
  unfold l_times guardR
  rw [if_pos (cw hp.a hq.a), if_pos (cw hp.b hq.b), lowest_eq (Int.mul_pos (F_low p).1 (F_low q).1) (m2 hp.b hq.b)]
  exact congrArg Res.ok (lowT_mul p q)
theorem lt_F (p q : Rat) : decide ((F p).a * (F q).b < (F q).a * (F p).b) = decide (p < q) := decide_eq_decide.mpr (Rat.lt_iff p q).symm
theorem mless (hp : Sz p) (hq : Sz q) : m_less (F p) (F q) = .ok (decide (p < q)) := by
  unfold m_less guardR
  rw [if_pos (cw hp.a hq.b), if_pos (cw hq.a hp.b), lt_F]
theorem lless (hp : Sz p) (hq : Sz q) : l_less (F p) (F q) = .ok (decide (p < q)) := by
  unfold l_less guardR
  rw [if_pos (cw hp.a hq.b), if_pos (cw hq.a hp.b), lt_F]
end
/-! ## a fraction is compared, is none, is one -/
theorem eqF (p q : Rat) : eqD (enc (F p)) (enc (F q)) = decide (p = q) := by
  have e : eqD (enc (F p)) (enc (F q)) = (decide (p.num = q.num) && (decide ((p.den : Int) = (q.den : Int)) && true)) := rfl
  rw [e, Bool.and_true, ← Bool.decide_and]
  exact decide_eq_decide.mpr ⟨fun h => Rat.ext h.1 (by have := h.2; omega), fun h => by rw [h]; exact ⟨rfl, rfl⟩⟩
theorem okF (p q : Rat) : okEq (enc (F p)) (enc (F q)) := okEq_of rfl rfl
theorem okO (o o' : Option Rat) : okEq (enc (o.map F)) (enc (o'.map F)) := by cases o <;> cases o' <;> exact okEq_of rfl rfl
theorem eqO (o o' : Option Rat) : eqD (enc (o.map F)) (enc (o'.map F)) = decide (o = o') := by
  cases o with
  | none => cases o' <;> rfl
  | some p => cases o' with
    | none => rfl
    | some q =>
      have e : eqD (enc ((some p).map F)) (enc ((some q).map F)) = eqD (enc (F p)) (enc (F q)) := rfl
      rw [e, eqF]
      exact decide_eq_decide.mpr ⟨fun h => by rw [h], fun h => Option.some.inj h⟩
theorem isn (o : Option Rat) : isNonD (enc (o.map F)) = o.isNone := by cases o <;> rfl
theorem isfrac (p q : Int) : m_is_fraction (.tup [.int p, .int q]) = .ok (decide (0 < q) && decide (Int.gcd p q = 1)) := by
  have e : m_is_fraction (.tup [.int p, .int q]) = (if (decide (q < 1)) = true then .ok false else (m_divisor p q).bind fun x42 => .ok (decide (x42 = 1))) := rfl
  rw [e]
  by_cases h : q < 1
  · rw [if_pos (decide_eq_true h), decide_eq_false (by omega)]; rfl
  · rw [if_neg (by simpa using h), div_ok, decide_eq_true (by omega)]
    show Res.ok (decide (((Int.gcd p q : Nat) : Int) = 1)) = Res.ok (true && decide (Int.gcd p q = 1))
    rw [Bool.true_and]
    exact congrArg Res.ok (decide_eq_decide.mpr (by omega))
theorem isfracF (q : Rat) : m_is_fraction (enc (F q)) = .ok true := (isfrac _ _).trans (by rw [decide_eq_true (F_low q).1, decide_eq_true (F_low q).2]; rfl)
theorem ismomF {q : Rat} (h : 0 ≤ q) : m_is_moment (enc (F q)) = .ok true := by
  unfold m_is_moment
  rw [isfracF]
  show Res.ok (decide (0 ≤ q.num)) = _
  rw [decide_eq_true (Rat.num_nonneg.mpr h)]
theorem F0 : (⟨0, 1⟩ : Fr) = F 0 := rfl
theorem F1 : (⟨1, 1⟩ : Fr) = F 1 := rfl
/-- a good edit, of a size -/
structure Ge (D N : Nat) (e : Er) : Prop where
  g : GoodE e
  s : Dv D N e.s
  r : Dv D N e.r
  b : ∀ x, e.b = some x → Dv D N x
theorem Ge.to {D E N M : Nat} {e : Er} (h : Ge D N e) (hd : D ∣ E) (hn : N ≤ M) : Ge E M e := ⟨h.g, h.s.to hd hn, h.r.to hd hn, fun x q => (h.b x q).to hd hn⟩
theorem Sz0 : Sz 0 := ⟨by show (0 : Nat) < 2 ^ 4400; exact Nat.pow_pos (by decide), by show (1 : Nat) < 2 ^ 4400; exact Nat.one_lt_two_pow (by decide)⟩
theorem isedit {e : Er} (h : GoodE e) (hs : Sz e.s) : m_is_edit (enc (G e)) = .ok true := by
  have e1 : m_is_edit (enc (G e)) = (m_is_fraction (enc (F e.s))).bind fun x28 => (if x28 = true then (asD Fr (enc (F e.s))).bind fun x35 => (m_less (⟨0, 1⟩ : Fr) x35).bind fun x38 => (if x38 = true then (m_is_moment (enc (F e.r))).bind fun x44 => (if x44 = true then (if (isNonD (enc (e.b.map F))) = true then guardR (okEq (enc (F e.r)) (enc (⟨0, 1⟩ : Fr))) <| .ok (eqD (enc (F e.r)) (enc (⟨0, 1⟩ : Fr))) else (m_is_moment (enc (e.b.map F))).bind fun x51 => .ok x51) else .ok false) else .ok false) else .ok false) := rfl
  have ea : asD Fr (enc (F e.s)) = .ok (F e.s) := rfl
  have q : Ok (m_is_edit (enc (G e))) fun r => r = true := by
    rw [e1]
    refine Ok.bindE (isfracF _) (Ok.iteT rfl (Ok.bindE ea (Ok.bindE (by rw [F0]; exact mless Sz0 hs) (Ok.iteT (decide_eq_true h.s) (Ok.bindE (ismomF h.r) (Ok.iteT rfl ?_))))))
    cases eb : e.b with
    | none => exact Ok.iteT rfl (by rw [h.n eb]; exact Ok.guard (okEq_of rfl rfl) (Ok.pure (eqD_refl rfl)))
    | some x => exact Ok.iteF rfl (Ok.bindE (ismomF (q := x) (h.b x eb)) (Ok.pure rfl))
  obtain ⟨r, e, rfl⟩ := q
  exact e
theorem sure_e {l : List Er} (hl : l.length ≤ 1000000) (h : ∀ e ∈ l, GoodE e ∧ Sz e.s) : m_sure_edits (l.map G) = .ok () := by
  have e0 : m_is_edits (l.map G) = .ok true := by
    have q : compR (l.map G) () (fun x12 (_ : Unit) => (m_is_edit (enc x12)).bind fun x28 => (.ok (some x28, ()) : Res (Option Bool × Unit))) = .ok ((l.map G).map (fun _ => true), ()) :=
      compR_map (g := fun _ => true) (by rw [List.length_map]; exact hl) fun x m => by
        obtain ⟨e, me, rfl⟩ := List.mem_map.mp m
        rw [isedit (h e me).1 (h e me).2]
        rfl
    unfold m_is_edits
    rw [if_pos (show isA "list" (enc (l.map G)) = true from rfl), q]
    show Res.ok (((l.map G).map (fun _ => true)).all id) = _
    congr 1
    simp
  unfold m_sure_edits
  rw [e0]
  rfl
theorem ledby_m {D N : Nat} {e : Er} {t : Rat} (b : Big D N) (h : Ge D N e) (ht : Dv D N t) : m_led_by (G e) (F t) = .ok ((byR e t).map F) := by
  unfold m_led_by byR
  show (if isNonD (enc (e.b.map F)) = true then _ else (m_times (F e.r) (F t)).bind fun x19 => (someR (e.b.map F)).bind fun x26 => (m_plus x26 x19).bind fun x29 => .ok (some x29)) = _
  cases eb : e.b with
  | none => rfl
  | some x =>
    rw [if_neg (show ¬ (isNonD (enc ((some x).map F)) = true) from fun z => nomatch z), mtimes (b.sz h.r) (b.sz ht)]
    show (m_plus (F x) (F (e.r * t))).bind _ = _
    rw [mplus (b.sz (h.b x eb)) (b.sz2 h.r ht)]
    rfl
theorem led_l {D N : Nat} (b : Big D N) : ∀ (l : List Er) (t : Rat), 0 ≤ t → Dv D N t → (∀ e ∈ l, Ge D N e) → l_led (l.map G) (F t) = .ok ((ledR l t).map F)
  | [], t, _, _, _ => rfl
  | e :: l, t, h0, ht, h => by
    have ge := h e List.mem_cons_self
    have st := b.sz ht
    have e2 : l_led ((e :: l).map G) (F t) = (l_less (F t) (F e.s)).bind fun x34 => (if x34 = true then (if (isNonD (enc (e.b.map F))) = true then .ok none else (l_times (F e.r) (F t)).bind fun x40 => (someR (e.b.map F)).bind fun x46 => (l_plus x46 x40).bind fun x49 => .ok (some x49)) else (l_minus (F t) (F e.s)).bind fun x55 => l_led (l.map G) x55) := by
      unfold l_led
      conv => lhs; unfold forR
      show Res.bind (Res.bind ((l_less (F t) (F e.s)).bind _) _) _ = _
      cases l_less (F t) (F e.s) with
      | err e => rfl
      | stuck => rfl
      | ok c =>
        cases c
        · show Res.bind (Res.bind ((l_minus (F t) (F e.s)).bind _) _) _ = (l_minus (F t) (F e.s)).bind _
          cases l_minus (F t) (F e.s) <;> rfl
        · show Res.bind (Res.bind (if isNonD (enc (e.b.map F)) = true then _ else _) _) _ = (if isNonD (enc (e.b.map F)) = true then _ else _)
          cases eb : e.b with
          | none => rfl
          | some x =>
            show Res.bind (Res.bind ((l_times (F e.r) (F t)).bind _) _) _ = (l_times (F e.r) (F t)).bind _
            cases l_times (F e.r) (F t) with
            | err e => rfl
            | stuck => rfl
            | ok y =>
              have es : someR (G e).b = .ok (F x) := by show someR (e.b.map F) = _; rw [eb]; rfl
              show Res.bind (Res.bind ((someR (G e).b).bind _) _) _ = (l_plus (F x) y).bind _
              rw [es]
              show Res.bind (Res.bind ((l_plus (F x) y).bind _) _) _ = (l_plus (F x) y).bind _
              cases l_plus (F x) y <;> rfl
    rw [e2, lless st (b.sz ge.s)]
    by_cases c : t < e.s
    · rw [decide_eq_true c, led_cons_lt c]
      show (if isNonD (enc (e.b.map F)) = true then _ else _) = _
      unfold byR
      cases eb : e.b with
      | none => rfl
      | some x =>
        show (l_times (F e.r) (F t)).bind _ = _
        rw [ltimes (b.sz ge.r) st]
        show (l_plus (F x) (F (e.r * t))).bind _ = _
        rw [lplus (b.sz (ge.b x eb)) (b.sz2 ge.r ht)]
        rfl
    · rw [decide_eq_false c, led_cons_ge (by grind)]
      show (l_minus (F t) (F e.s)).bind _ = _
      rw [lminus st (b.sz ge.s)]
      exact led_l b l (t - e.s) (by grind) (ht.mid (ht.sub ge.s) (by grind) (by have := ge.g.s; grind)) fun y m => h y (List.mem_cons_of_mem _ m)
theorem noErr_ok {α : Type} {m : Res α} {a : α} (h : m = .ok a) : m.noErr = .ok a := by rw [h]; rfl
end A

set_option Elab.async false
set_option linter.all false
set_option maxRecDepth 100000
set_option maxHeartbeats 2000000
namespace A
open PySem PySem.Spec PyProof.Rows L2 Y
open Y.Enc (enc)
/-! # tidy and what is tidy -/
theorem eqOk_ed (e : Ed) : eqOk 19 (enc e) = true := by
  obtain ⟨a, b, c⟩ := e
  cases b <;> rfl
theorem eqOk_eds (l : List Ed) : eqOk 20 (enc l) = true := by
  show eqOks 19 (l.map enc) = true
  induction l with
  | nil => rfl
  | cons x xs ih => show (eqOk 19 (enc x) && eqOks 19 (xs.map enc)) = true; rw [ih, eqOk_ed]; rfl
theorem flat_eds (l : List Ed) : flatD (enc l) = true := (eqOk_flat _ 20 (eqOk_eds l)).1
theorem eq_eds (l : List Ed) : eqD (enc l) (enc l) = true := eqD_refl (flat_eds l)
theorem ok_eds (l m : List Ed) : okEq (enc l) (enc m) := okEq_of (eqOk_eds l) (eqOk_eds m)
theorem ok_nil (l : List Ed) : okEq (enc l) (enc ([] : List D)) := okEq_of (eqOk_eds l) rfl
theorem eq_nil (l : List Ed) : eqD (enc l) (enc ([] : List D)) = l.isEmpty := by cases l <;> rfl
theorem ix_last {α : Type} {pre : List α} {f : α} : ixR (pre ++ [f]) (-1) = .ok f := by
  have e : ixN (pre ++ [f]).length (-1) = some pre.length := by
    unfold ixN
    rw [List.length_append, List.length_singleton]
    simp
    constructor <;> omega
  unfold ixR atI
  rw [e]
  simp
theorem popE_last {α : Type} {pre : List α} {f : α} : popE (pre ++ [f]) = .ok (f, pre) := by
  unfold popE
  simp
/-- a loop over g's of things; I of the things that are left -/
theorem Ok.forM {α β S R : Type} {g : β → α} {f : α → S → Res (Fl S R)} (I : List β → S → Prop) (hf : ∀ x xs s, I (x :: xs) s → Ok (f (g x) s) fun r => ∃ s', r = .nx s' ∧ I xs s') : ∀ {l : List β} {s : S}, I l s → Ok (forR (l.map g) s f) fun r => ∃ s', r = .nx s' ∧ I [] s'
  | [], s, h => ⟨_, rfl, s, rfl, h⟩
  | x :: xs, s, h => by
    refine Ok.bind (hf x xs s h) ?_
    rintro r ⟨s', rfl, h'⟩
    exact Ok.forM I hf h'
theorem push_ge {D N M : Nat} {st : List Er} {e : Er} (h : ∀ x ∈ st, Ge D N x) (he : Ge D M e) : ∀ x ∈ pushR st e, Ge D (N + M) x := by
  intro x m
  unfold pushR at m
  cases st with
  | nil => rw [List.mem_singleton.mp m]; exact he.to (Nat.dvd_refl _) (by omega)
  | cons a r =>
    simp only at m
    by_cases c : onB a e = true
    · rw [if_pos c] at m
      rcases List.mem_cons.mp m with rfl | m
      · have ha := h a List.mem_cons_self
        exact ⟨⟨by show 0 < a.s + e.s; have := ha.g.s; have := he.g.s; grind, ha.g.r, ha.g.b, ha.g.n⟩, ha.s.add he.s, ha.r.up (by omega), fun x q => (ha.b x q).up (by omega)⟩
      · exact (h x (List.mem_cons_of_mem _ m)).to (Nat.dvd_refl _) (by omega)
    · rw [if_neg c] at m
      rcases List.mem_cons.mp m with rfl | m
      · exact he.to (Nat.dvd_refl _) (by omega)
      · exact (h x m).to (Nat.dvd_refl _) (by omega)
theorem push_len (st : List Er) (e : Er) : (pushR st e).length ≤ st.length + 1 := by
  unfold pushR
  cases st with
  | nil => exact Nat.le_refl _
  | cons a r =>
    simp only
    split
    · exact Nat.le_succ _
    · exact Nat.le_refl _
theorem fold_len : ∀ (l st : List Er), (l.foldl pushR st).length ≤ st.length + l.length
  | [], st => Nat.le_refl _
  | e :: l, st => by
    have h1 := fold_len l (pushR st e)
    have h2 := push_len st e
    show (l.foldl pushR (pushR st e)).length ≤ st.length + (l.length + 1)
    omega
theorem noLast_len (st : List Er) : (noLast st).length ≤ st.length := by
  cases st with
  | nil => exact Nat.le_refl _
  | cons a r =>
    rw [noLast_cons]
    split
    · exact Nat.le_succ _
    · exact Nat.le_refl _
theorem tidy_len (l : List Er) : (tidyR l).length ≤ l.length := by
  unfold tidyR
  rw [List.length_reverse]
  have h1 := fold_len l []
  have h2 := noLast_len (l.foldl pushR [])
  have : ([] : List Er).length = 0 := rfl
  omega
theorem tidy_adj : ∀ {l : List Er}, TidyR l → ∀ (k : Nat) (e f : Er), l[k]? = some e → l[k + 1]? = some f → onB e f = false
  | [], _, k, e, f, h, _ => by simp at h
  | [a], _, 0, e, f, _, h => by simp at h
  | [a], _, k + 1, e, f, h, _ => by simp at h
  | a :: c :: l, t, 0, e, f, h1, h2 => by
    simp at h1 h2
    subst h1 h2
    exact t.1
  | a :: c :: l, t, k + 1, e, f, h1, h2 => tidy_adj (l := c :: l) t.2 k e f (by simpa using h1) (by simpa using h2)
theorem tidy_last : ∀ {pre : List Er} {e : Er}, TidyR (pre ++ [e]) → e.b ≠ none
  | [], e, h => h
  | [a], e, h => h.2
  | a :: c :: l, e, h => tidy_last (pre := c :: l) h.2
theorem nil_or (l : List Er) : l = [] ∨ ∃ pre e, l = pre ++ [e] := by
  rcases List.eq_nil_or_concat l with h | ⟨pre, e, h⟩
  · exact .inl h
  · exact .inr ⟨pre, e, by rw [h, List.concat_eq_append]⟩
theorem Ok.ixG {γ δ : Type} {l : List Er} {i : Int} {k : Ed → Res δ} {ψ : δ → Prop} (h0 : 0 ≤ i) (h1 : i < (l.length : Int)) (h : ∀ e, e ∈ l → l[i.toNat]? = some e → Ok (k (G e)) ψ) : Ok ((ixR (l.map G) i).bind k) ψ := by
  refine Ok.ix h0 (by rw [List.length_map]; exact h1) fun x m q => ?_
  rw [List.getElem?_map] at q
  cases e : l[i.toNat]? with
  | none => rw [e] at q; exact nomatch q
  | some y =>
    rw [e] at q
    cases q
    exact h y (List.mem_of_getElem? e) e
theorem mem_rngI {lo hi x : Int} (h : x ∈ rngI lo hi) : lo ≤ x ∧ x < hi := by
  unfold rngI at h
  obtain ⟨i, m, rfl⟩ := List.mem_map.mp h
  have := List.mem_range.mp m
  omega
end A

set_option Elab.async false
set_option linter.all false
set_option maxRecDepth 100000
set_option maxHeartbeats 2000000
namespace A
open PySem PySem.Spec PyProof.Rows L2 Y
open Y.Enc (enc)
/-! # drawn edits -/
def D0 : Nat := 11964035892
def N0 : Nat := 1000000000
def N1 : Nat := 1000000001
def DD : Nat := D0 * D0
def NN : Nat := 20000000000000000000
/-- a moment, of a size -/
def Mo (D N : Nat) (f : Fr) : Prop := ∃ q : Rat, f = F q ∧ 0 ≤ q ∧ Dv D N q
theorem Mo.to {D E N M : Nat} {f : Fr} (h : Mo D N f) (hd : D ∣ E) (hn : N ≤ M) : Mo E M f := by
  obtain ⟨q, e, h0, h⟩ := h
  exact ⟨q, e, h0, h.to hd hn⟩
theorem Mo.div {D N : Nat} {a b : Int} (ha : 0 ≤ a) (hb : 0 < b) (hd : b.toNat ∣ D) (h : a.toNat ≤ N * b.toNat) : Mo D N (F (Rat.divInt a b)) :=
  ⟨_, rfl, Rat.divInt_nonneg ha (Int.le_of_lt hb), Dv.of hb hd (by rw [show a.natAbs = a.toNat by omega]; exact h)⟩
theorem Mo.int {D N : Nat} {a : Int} (ha : 0 ≤ a) (h : a.toNat ≤ N) : Mo D N (⟨a, 1⟩ : Fr) :=
  ⟨(a : Rat), rfl, Rat.intCast_nonneg.mpr ha, Dv.int (by omega)⟩
/-- a fraction that the law makes -/
theorem Ok.low {β : Type} {a b : Int} {k : Fr → Res β} {ψ : β → Prop} (hb : 0 < b) (hs : b < 18446744073709551616) (h : Ok (k (F (Rat.divInt a b))) ψ) : Ok ((l_lowest a b).bind k) ψ :=
  Ok.bindE (lowest_F hb (Nat.lt_of_lt_of_le (show b.natAbs < 2 ^ 64 by omega) (Nat.pow_le_pow_right (by decide) (by decide)))) h
theorem dvd14 {x : Int} (h0 : 0 ≤ x) (h : x < 4) : (1 + x).toNat ∣ D0 := by
  have : x = 0 ∨ x = 1 ∨ x = 2 ∨ x = 3 := by omega
  rcases this with rfl | rfl | rfl | rfl <;> decide
theorem amount_ok {st : List Int} (h : Gd st) : Ok (l_amount st) fun r => Mo D0 N0 r.1 ∧ r.2.length = 3 := by
  unfold l_amount
  refine dg h (by decide) (bg (by decide)) fun x1 s1 a1 b1 h1 => ?_
  refine dg (gd3 h1) (by decide) (bg (by decide)) fun x2 s2 a2 b2 h2 => ?_
  refine dg (gd3 h2) (by decide) (bg (by decide)) fun x3 s3 a3 b3 h3 => ?_
  refine Ok.low (by omega) (by omega) ?_
  refine dg (gd3 h3) (by decide) (bg (by decide)) fun x4 s4 a4 b4 h4 => ?_
  refine dg (gd3 h4) (by decide) (bg (by decide)) fun x5 s5 a5 b5 h5 => ?_
  refine Ok.low (by decide) (by decide) ?_
  refine dg (gd3 h5) (by decide) (bg (by decide)) fun x6 s6 a6 b6 h6 => ?_
  refine Ok.low (by decide) (by decide) ?_
  refine dg (gd3 h6) (by decide) (bg (by decide)) fun x7 s7 a7 b7 h7 => ?_
  refine Ok.ixm a1 b1 fun z m => Ok.pure ⟨?_, h7⟩
  have c1 : Mo D0 N0 (F (Rat.divInt x2 (1 + x3))) := Mo.div a2 (by omega) (dvd14 a3 b3) (by unfold N0; omega)
  have c2 : Mo D0 N0 (F (Rat.divInt (x4 * 1000000 + x5) 1000003)) := Mo.div (by omega) (by decide) (by decide) (by unfold N0; omega)
  have c3 : Mo D0 N0 (F (Rat.divInt x6 997)) := Mo.div a6 (by decide) (by decide) (by unfold N0; omega)
  have c4 : Mo D0 N0 (⟨x7, 1⟩ : Fr) := Mo.int a7 (by unfold N0; omega)
  have c5 : Mo D0 N0 (⟨0, 1⟩ : Fr) := Mo.int (by decide) (by decide)
  simp only [List.mem_cons, List.not_mem_nil, or_false] at m
  rcases m with rfl | rfl | rfl | rfl | rfl | rfl | rfl <;> assumption
/-- an edit as drawn -/
structure GX (N : Nat) (e : Er) : Prop where
  g : GoodE e
  s : Dv D0 N1 e.s
  r : Dv D0 N0 e.r
  b : ∀ x, e.b = some x → Dv DD N x
theorem GX.up {N M : Nat} {e : Er} (h : GX N e) (hn : N ≤ M) : GX M e := ⟨h.g, h.s, h.r, fun x q => (h.b x q).up hn⟩
theorem GX.ge {N : Nat} {e : Er} (h : GX N e) (hn : N ≤ NN) : Ge DD NN e := ⟨h.g, h.s.to (Nat.dvd_mul_right ..) (by decide), h.r.to (Nat.dvd_mul_right ..) (by decide), fun x q => (h.b x q).up hn⟩
theorem low64 {n : Nat} (h : n < 2 ^ 256) : n < 2 ^ 400 := pow_up h (by decide)
theorem big_of {D N : Nat} (hp : 0 < D := by decide) (hd : D < 2 ^ 256 := by decide) (hn : N < 2 ^ 256 := by decide) : Big D N := ⟨hp, pow_up hd (by decide), low64 hn⟩
theorem bigDN2 {l : List Er} (hl : l.length ≤ 6) : Big DD (NN * (l.length + 1)) := ⟨(big_of (D := DD) (N := 0)).p, (big_of (D := DD) (N := 0)).d, Nat.lt_of_le_of_lt (Nat.mul_le_mul_left _ (show l.length + 1 ≤ 7 by omega)) (big_of (D := DD) (N := NN * 7)).n⟩
theorem big00 : Big D0 N1 := big_of
theorem bigDN : Big DD NN := big_of
theorem mo01 : Mo D0 N0 (⟨0, 1⟩ : Fr) := Mo.int (by decide) (by decide)
theorem edit_ok {st : List Int} {l : List Er} {N : Nat} (h : Gd st) (hN : N0 ≤ N) (hk : N ≤ NN) (hl : ∀ e ∈ l, GX N e) (hlen : l.length ≤ 100000) : Ok (l_edit st (l.map G)) fun r => (∃ e, r.1 = G e ∧ GX (N + N0 * N1) e) ∧ r.2.length = 3 := by
  unfold l_edit
  refine dg h (by decide) (bg (by decide)) fun x1 s1 a1 b1 h1 => ?_
  refine Ok.bind (amount_ok (gd3 h1)) fun ⟨am, s2⟩ ⟨⟨q1, eq1, q10, q1d⟩, h2⟩ => ?_
  refine dg (gd3 h2) (by decide) (bg (by decide)) fun x3 s3 a3 b3 h3 => ?_
  refine Ok.low (by omega) (by omega) ?_
  have bq : Dv D0 1 (Rat.divInt 1 (1 + x3)) := Dv.of (by omega) (dvd14 a3 (by omega)) (by show 1 ≤ 1 * _; omega)
  have pq : 0 < Rat.divInt 1 (1 + x3) := by
    have h0 : 0 ≤ Rat.divInt 1 (1 + x3) := Rat.divInt_nonneg (by decide) (by omega)
    have h1 : Rat.divInt 1 (1 + x3) ≠ 0 := by
      rw [Rat.divInt_eq_div, Rat.div_def]
      intro z
      rcases Rat.mul_eq_zero.mp z with z | z
      · exact absurd z (by decide)
      · have h3 : ((1 + x3 : Int) : Rat) ≠ 0 := fun y => by have := Rat.intCast_eq_zero_iff.mp y; omega
        have h4 := Rat.mul_inv_cancel _ h3
        rw [z, Rat.mul_zero] at h4
        exact absurd h4 (by decide)
    grind
  subst eq1
  refine Ok.bindE (lplus (big00.sz (q1d.up (by decide))) (big00.sz (bq.up (by decide)))) ?_
  simp only
  have bs : Dv D0 N1 (q1 + Rat.divInt 1 (1 + x3)) := (q1d.add bq).up (by decide)
  have ps : 0 < q1 + Rat.divInt 1 (1 + x3) := by grind
  generalize q1 + Rat.divInt 1 (1 + x3) = sp at *
  refine Ok.bind (amount_ok (gd3 h3)) fun ⟨stt, s4⟩ ⟨⟨q2, eq2, q20, q2d⟩, h4⟩ => ?_
  refine Ok.bind (amount_ok (gd3 h4)) fun ⟨rt, s5⟩ ⟨brt, h5⟩ => ?_
  refine dg (gd3 h5) (by decide) (bg (by decide)) fun x6 s6 a6 b6 h6 => Ok.ixm a6 b6 fun rate m => ?_
  have br : Mo D0 N0 rate := by
    have d1 : Mo D0 N0 (⟨1, 1⟩ : Fr) := Mo.int (by decide) (by decide)
    have d2 : Mo D0 N0 (⟨0, 1⟩ : Fr) := Mo.int (by decide) (by decide)
    have d3 : Mo D0 N0 (⟨2, 1⟩ : Fr) := Mo.int (by decide) (by decide)
    have d4 : Mo D0 N0 (⟨1, 2⟩ : Fr) := ⟨Rat.divInt 1 2, (low_eq (f := ⟨1, 2⟩) (a := 1) (b := 2) ⟨by decide, by decide⟩ (by decide) (by decide)).symm.trans (lowT_F (by decide)), Rat.divInt_nonneg (by decide) (by decide), Dv.of (by decide) (by decide) (by decide)⟩
    simp only [List.mem_cons, List.not_mem_nil, or_false] at m
    rcases m with rfl | rfl | rfl | rfl | rfl | rfl <;> assumption
  have DDd : D0 ∣ DD := Nat.dvd_mul_right ..
  obtain ⟨rr, err, rr0, rrd⟩ := br
  refine Ok.ite (fun _ => Ok.pure ⟨⟨⟨sp, none, 0⟩, rfl, ⟨ps, Rat.le_refl, (fun x q => nomatch q), fun _ => rfl⟩, bs, Dv.int (a := 0) (by decide), (fun x q => nomatch q)⟩, h6⟩) fun _ => ?_
  refine Ok.bind (φ := fun b => b = true → ∃ pre e s, l = pre ++ [e] ∧ e.b = some s) (Ok.ite (fun _ => Ok.guard (ok_nil _) (Ok.ite (fun c => ?_) fun _ => Ok.pure fun z => nomatch z)) fun _ => Ok.pure fun z => nomatch z) fun b hb => Ok.ite (fun c => ?_) fun _ => ?_
  · rcases nil_or l with rfl | ⟨pre, e, rfl⟩
    · exact nomatch c
    · rw [List.map_append]
      refine Ok.bindE (show ixR (pre.map G ++ [G e]) (-1) = .ok (G e) from ix_last) (Ok.pure fun z => ⟨pre, e, ?_⟩)
      cases eb : e.b with
      | none =>
        have : (!isNonD (enc (e.b.map F))) = true := z
        rw [eb] at this
        exact nomatch this
      | some s => exact ⟨s, rfl, rfl⟩
  · obtain ⟨pre, e, s, rfl, eb⟩ := hb c
    have ge := hl e (List.mem_append_right _ (List.mem_singleton.mpr rfl))
    have bss := ge.b s eb
    have es : someR (G e).b = .ok (F s) := by show someR (e.b.map F) = _; rw [eb]; rfl
    rw [List.map_append]
    refine Ok.bindE (show ixR (pre.map G ++ [G e]) (-1) = .ok (G e) from ix_last) (Ok.bindE (ltimes (big00.sz (ge.r.up (by decide))) (big00.sz ge.s)) (Ok.bindE es ?_))
    refine Ok.bindE (lplus (bigDN.sz (bss.up hk)) (big00.sz2 (ge.r.up (by decide)) ge.s)) (Ok.pure ⟨⟨⟨sp, some (s + e.r * e.s), e.r⟩, rfl, ⟨ps, ge.g.r, fun x q => ?_, fun q => nomatch q⟩, bs, ge.r, fun x q => ?_⟩, h6⟩)
    · cases q
      have := ge.g.b s eb
      have := Rat.mul_nonneg ge.g.r (show 0 ≤ e.s by have := ge.g.s; grind)
      grind
    · cases q
      exact bss.add (ge.r.mul ge.s)
  · subst err eq2
    exact Ok.pure ⟨⟨⟨sp, some q2, rr⟩, rfl, ⟨ps, rr0, (fun x q => by cases q; exact q20), fun q => nomatch q⟩, bs, rrd, fun x q => by cases q; exact q2d.to DDd (by omega)⟩, h6⟩
theorem forN {α S R : Type} {f : α → S → Res (Fl S R)} (N : Nat) (I : Nat → S → Prop) : ∀ {l : List α}, (∀ x s i, x ∈ l → i < N → I i s → Ok (f x s) fun r => ∃ s', r = .nx s' ∧ I (i + 1) s') → ∀ {s i}, i + l.length ≤ N → I i s → Ok (forR l s f) fun r => ∃ s', r = .nx s' ∧ I (i + l.length) s' := by
  intro l
  induction l with
  | nil => intro _ s i _ h; exact ⟨_, rfl, s, rfl, h⟩
  | cons x xs ih =>
    intro hf s i hk h
    have hk' : i + (xs.length + 1) ≤ N := hk
    refine Ok.bind (hf x s i List.mem_cons_self (by omega) h) ?_
    rintro r ⟨s', rfl, h'⟩
    refine (ih (fun y s i m => hf y s i (List.mem_cons_of_mem _ m)) (i := i + 1) (by omega) h').mono ?_
    rintro r ⟨s2, e, q⟩
    exact ⟨s2, e, by rw [show i + (x :: xs).length = i + 1 + xs.length from by rw [List.length_cons]; omega]; exact q⟩
theorem rngI_len (n : Int) : (rngI 0 n).length = n.toNat := by unfold rngI; simp
theorem edits_okX {st : List Int} {n : Int} (h : Gd st) (hn0 : 0 ≤ n) (hn : n ≤ 12) : Ok (l_edits st n) fun r => (∃ l : List Er, r.1 = l.map G ∧ l.length ≤ n.toNat ∧ ∀ e ∈ l, GX NN e) ∧ r.2.length = 3 := by
  unfold l_edits
  refine dg h (by omega) (bg (by omega)) fun x1 s1 a1 b1 h1 => Ok.guard (by omega) ?_
  have NN_ : ∀ i, i < 12 → N0 + N0 * N1 * (i + 1) ≤ NN := fun i hi => by unfold N0 N1 NN; omega
  refine Ok.bind (forN 12 (fun i (s : List Ed × List Int) => ∃ l : List Er, s.1 = l.map G ∧ l.length = i ∧ s.2.length = 3 ∧ ∀ e ∈ l, GX (N0 + N0 * N1 * i) e) (fun x s i _ hi hI => ?_) (i := 0) (by rw [rngI_len]; omega) ⟨[], rfl, rfl, h1, fun _ m => nomatch m⟩) ?_
  · obtain ⟨l, e1, hl, h3, hg⟩ := hI
    obtain ⟨s1, s2⟩ := s
    simp only at e1 h3
    subst e1
    have hNi := NN_ i hi
    refine Ok.bind (edit_ok (gd3 h3) (Nat.le_add_right ..) (by rw [Nat.mul_add, Nat.mul_one] at hNi; omega) hg (by omega)) ?_
    rintro ⟨y, s3⟩ ⟨⟨e, ey, ge⟩, g2⟩
    simp only at ey g2
    subst ey
    refine Ok.guard (by rw [List.length_map]; omega) (Ok.pure ⟨_, rfl, l ++ [e], by rw [List.map_append]; rfl, by rw [List.length_append, hl]; rfl, g2, fun y m => ?_⟩)
    rcases List.mem_append.mp m with m | m
    · exact (hg y m).up (Nat.add_le_add_left (Nat.mul_le_mul_left _ (by omega)) _)
    · rw [List.mem_singleton.mp m]
      exact ge.up (by rw [Nat.mul_add, Nat.mul_one]; omega)
  · rintro _ ⟨s, rfl, l, e1, hl, h3, hg⟩
    rw [rngI_len] at hl hg
    refine Ok.pure ⟨⟨l, e1, by omega, fun e m => (hg e m).up ?_⟩, h3⟩
    exact Nat.le_trans (Nat.add_le_add_left (Nat.mul_le_mul_left _ (show 0 + x1.toNat ≤ 11 + 1 by omega)) _) (NN_ 11 (by decide))
theorem edits_ok {st : List Int} {n : Int} (h : Gd st) (hn0 : 0 ≤ n) (hn : n ≤ 12) : Ok (l_edits st n) fun r => (∃ l : List Er, r.1 = l.map G ∧ l.length ≤ n.toNat ∧ ∀ e ∈ l, Ge DD NN e) ∧ r.2.length = 3 :=
  (edits_okX h hn0 hn).mono fun r ⟨⟨l, e, hl, g⟩, h3⟩ => ⟨⟨l, e, hl, fun e m => (g e m).ge (Nat.le_refl _)⟩, h3⟩
end A

set_option Elab.async false
set_option linter.all false
set_option maxRecDepth 100000
set_option maxHeartbeats 2000000
namespace A
open PySem PySem.Spec PyProof.Rows L2 Y
open Y.Enc (enc)
/-! # pieces within a stretch -/
theorem Big.sub {D N M : Nat} (b : Big (D * D) N) (h : M ≤ N) : Big D M := by
  have hp : 0 < D := Nat.pos_of_ne_zero fun z => by have := b.p; rw [z] at this; exact absurd this (by decide)
  exact ⟨hp, Nat.lt_of_le_of_lt (Nat.le_mul_of_pos_right _ hp) b.d, Nat.lt_of_le_of_lt h b.n⟩
theorem Big.less {D N M : Nat} (b : Big D N) (h : M ≤ N) : Big D M := ⟨b.p, b.d, Nat.lt_of_le_of_lt h b.n⟩
theorem mminus {p q : Rat} (hp : Sz p) (hq : Sz q) : m_minus (F p) (F q) = .ok (F (p - q)) := by
  unfold m_minus guardR
  rw [if_pos (cw hp.a hq.b), if_pos (cw hq.a hp.b), if_pos (cw hp.b hq.b), frac_eq (Int.mul_pos (F_low p).1 (F_low q).1) (m2 hp.b hq.b)]
  exact congrArg Res.ok (lowT_sub p q)
theorem sure_m {q : Rat} (h : 0 ≤ q) : m_sure_moment (enc (F q)) = .ok () := by
  unfold m_sure_moment
  rw [ismomF h]
  rfl
theorem Dv.max {D N : Nat} {p q : Rat} (hp : Dv D N p) (hq : Dv D N q) : Dv D N (max p q) := by
  by_cases c : p < q
  · rw [show Max.max p q = q by grind]; exact hq
  · rw [show Max.max p q = p by grind]; exact hp
theorem Dv.min {D N : Nat} {p q : Rat} (hp : Dv D N p) (hq : Dv D N q) : Dv D N (min p q) := by
  by_cases c : p < q
  · rw [show Min.min p q = p by grind]; exact hp
  · rw [show Min.min p q = q by grind]; exact hq
theorem pieces_len : ∀ (l : List Er) (b lo hi : Rat), (piecesR l b lo hi).length ≤ l.length + 1
  | [], b, lo, hi => by
    show (if Max.max b lo < hi then [_] else ([] : List Er)).length ≤ 1
    split
    · exact Nat.le_refl _
    · exact Nat.zero_le _
  | e :: l, b, lo, hi => by
    have := pieces_len l (b + e.s) lo hi
    show ((if Max.max b lo < Min.min (b + e.s) hi then [_] else ([] : List Er)) ++ piecesR l (b + e.s) lo hi).length ≤ l.length + 1 + 1
    rw [List.length_append]
    split
    · show 1 + _ ≤ _; omega
    · show 0 + _ ≤ _; omega
end A

set_option Elab.async false
set_option linter.all false
set_option maxRecDepth 100000
set_option maxHeartbeats 2000000
namespace A
open PySem PySem.Spec PyProof.Rows L2 Y
open Y.Enc (enc)
/-! # sums, moments -/
theorem Mo.add {D N M : Nat} {p q : Rat} (hp : Mo D N (F p)) (hq : Mo D M (F q)) : Mo D (N + M) (F (p + q)) := by
  obtain ⟨p', e, h0, h⟩ := hp
  obtain ⟨q', e', h0', h'⟩ := hq
  have e := F_inj e
  have e' := F_inj e'
  subst e e'
  exact ⟨_, rfl, Rat.add_nonneg h0 h0', h.add h'⟩
theorem Mo.dv {D N : Nat} {p : Rat} (hp : Mo D N (F p)) : Dv D N p := by
  obtain ⟨p', e, h0, h⟩ := hp
  rw [F_inj e]
  exact h
theorem Mo.nn {D N : Nat} {p : Rat} (hp : Mo D N (F p)) : 0 ≤ p := by
  obtain ⟨p', e, h0, h⟩ := hp
  rw [F_inj e]
  exact h0
theorem Mo.mk {D N : Nat} {p : Rat} (h : 0 ≤ p) (hd : Dv D N p) : Mo D N (F p) := ⟨p, rfl, h, hd⟩
theorem Mo.dig {D N : Nat} {x y z : Int} (a : 0 ≤ x) (b : x ≤ z) (c : 0 < y) (hd : y.toNat ∣ D) (hz : z.toNat ≤ N) : Mo D N (F (Rat.divInt x y)) := by
  refine Mo.div a c hd ?_
  have : 0 < y.toNat := by omega
  exact Nat.le_trans (by omega) (Nat.le_mul_of_pos_right _ this)
theorem half_F : (⟨1, 2⟩ : Fr) = F (Rat.divInt 1 2) := (low_eq (f := ⟨1, 2⟩) (a := 1) (b := 2) ⟨by decide, by decide⟩ (by decide) (by decide)).symm.trans (lowT_F (by decide))
theorem divInt_half : Rat.divInt 1 2 = 1 / 2 := by rw [Rat.divInt_eq_div]; rfl
theorem half_dv : Dv 2 1 (Rat.divInt 1 2) := Dv.of (by decide) (by decide) (by decide)
theorem good_pos {l : List Er} {D N : Nat} (h : ∀ e ∈ l, Ge D N e) : ∀ e ∈ l, 0 < e.s := fun e m => (h e m).g.s
theorem sum_dv {D N : Nat} : ∀ {l : List Er}, (∀ e ∈ l, Dv D N e.s) → Dv D (N * l.length) (sumR l)
  | [], _ => Dv.int (a := 0) (Nat.zero_le _)
  | e :: l, h => by
    have := (h e List.mem_cons_self).add (sum_dv fun y m => h y (List.mem_cons_of_mem e m))
    show Dv D (N * (l.length + 1)) (e.s + sumR l)
    rw [Nat.mul_succ, Nat.add_comm]
    exact this
theorem cell_ok {ns : List Int} {i : Int} (h0 : 0 ≤ i) : Ok (l_cell_at ns i) fun _ => True := by
  unfold l_cell_at
  exact Ok.ite (fun c => Ok.ix h0 (of_decide_eq_true c) fun x _ _ => Ok.pure trivial) fun _ => Ok.pure trivial
theorem sum_rev : ∀ (l : List Er), sumR l.reverse = sumR l
  | [] => rfl
  | e :: l => by
    rw [List.reverse_cons, sumR_app, sum_rev l]
    show sumR l + (e.s + 0) = e.s + sumR l
    grind
theorem sum_push (st : List Er) (e : Er) : sumR (pushR st e) = sumR st + e.s := by
  unfold pushR
  cases st with
  | nil => show e.s + 0 = 0 + e.s; grind
  | cons a r =>
    simp only
    split
    · show a.s + e.s + sumR r = a.s + sumR r + e.s; grind
    · show e.s + (a.s + sumR r) = a.s + sumR r + e.s; grind
theorem sum_fold : ∀ (l st : List Er), sumR (l.foldl pushR st) = sumR st + sumR l
  | [], st => by show sumR st = sumR st + 0; grind
  | e :: l, st => by
    rw [List.foldl_cons, sum_fold l, sum_push]
    show sumR st + e.s + sumR l = sumR st + (e.s + sumR l)
    grind
theorem sum_tidy {l : List Er} (g : ∀ e ∈ l, GoodE e) : sumR (tidyR l) ≤ sumR l := by
  unfold tidyR
  rw [sum_rev]
  have h := sum_fold l []
  have hg := fold_good l [] (fun _ m => nomatch m) g
  rw [show sumR ([] : List Er) + sumR l = sumR l by show 0 + sumR l = sumR l; grind] at h
  rw [← h]
  generalize l.foldl pushR [] = st at *
  cases st with
  | nil => exact Rat.le_refl
  | cons a r =>
    rw [noLast_cons]
    split
    · have := (hg a List.mem_cons_self).s
      show sumR r ≤ a.s + sumR r
      grind
    · exact Rat.le_refl
end A

set_option Elab.async false
set_option linter.all false
set_option maxRecDepth 100000
set_option maxHeartbeats 2000000
namespace A
open PySem PySem.Spec PyProof.Rows L2 Y
open Y.Enc (enc)
/-! # over -/
/-- a good edit, of a size: spans by S, rates by R, starts by B, one over the rate by I -/
structure Gs (S R B I N : Nat) (e : Er) : Prop where
  g : GoodE e
  s : Dv S N e.s
  r : Dv R N e.r
  b : ∀ x, e.b = some x → Dv B N x
  p : Dv B N (e.r * e.s)
  i : e.r ≠ 0 → Dv I N (1 / e.r)
theorem Gs.ge {S R B I N D M : Nat} {e : Er} (h : Gs S R B I N e) (hs : S ∣ D) (hr : R ∣ D) (hb : B ∣ D) (hn : N ≤ M) : Ge D M e := ⟨h.g, h.s.to hs hn, h.r.to hr hn, fun x q => (h.b x q).to hb hn⟩
theorem Gs.to {S R B I N S' R' B' I' M : Nat} {e : Er} (h : Gs S R B I N e) (hs : S ∣ S') (hr : R ∣ R') (hb : B ∣ B') (hi : I ∣ I') (hn : N ≤ M) : Gs S' R' B' I' M e := ⟨h.g, h.s.to hs hn, h.r.to hr hn, fun x q => (h.b x q).to hb hn, h.p.to hb hn, fun q => (h.i q).to hi hn⟩
theorem Gs.up {S R B I N M : Nat} {e : Er} (h : Gs S R B I N e) (hn : N ≤ M) : Gs S R B I M e := h.to (Nat.dvd_refl _) (Nat.dvd_refl _) (Nat.dvd_refl _) (Nat.dvd_refl _) hn
theorem dv0 {D N : Nat} : Dv D N 0 := Dv.int (a := 0) (Nat.zero_le _)
theorem mshared {p q : Rat} (hp : Sz p) (hq : Sz q) (h : 0 < q) : m_shared (F p) (F q) = .ok (F (p / q)) := by
  have hn : q.num ≠ 0 := fun z => by rw [Rat.num_eq_zero.mp z] at h; exact absurd h (by decide)
  have hn0 := Rat.num_nonneg.mpr (show 0 ≤ q by grind)
  unfold m_shared guardR
  rw [if_neg (show ¬ (decide ((F q).a = 0) = true) from fun z => hn (of_decide_eq_true z)), if_pos (cw hp.a hq.b), if_pos (cw hp.b hq.a), frac_eq (Int.mul_pos (F_low p).1 (show 0 < (F q).a by show 0 < q.num; omega)) (m2 hp.b hq.a)]
  exact congrArg Res.ok (lowT_div p q (by grind))
theorem mapped_loop {D N : Nat} (b : Big D N) : ∀ (l : List Er) (t : Rat), 0 ≤ t → Dv D N t → (∀ e ∈ l, Ge D N e) → (forR (l.map G) (F t) (fun x27 (a26 : Fr) => ((m_less a26 x27.a).noErr).bind fun x42 => (if x42 = true then (m_led_by x27 a26).bind fun x48 => .ok (.rt x48) else (m_minus a26 x27.a).bind fun x61 => (.ok (.nx x61) : Res (Fl Fr (Option Fr)))))).bind (afterR fun _ => .ok none) = .ok ((ledR l t).map F)
  | [], t, _, _, _ => rfl
  | e :: l, t, h0, ht, h => by
    have ge := h e List.mem_cons_self
    have st := b.sz ht
    show Res.bind (Res.bind (((m_less (F t) (F e.s)).noErr).bind _) _) _ = _
    rw [mless st (b.sz ge.s)]
    by_cases c : t < e.s
    · rw [decide_eq_true c, led_cons_lt c]
      show Res.bind (Res.bind ((m_led_by (G e) (F t)).bind _) _) _ = _
      rw [ledby_m b ge ht]
      rfl
    · rw [decide_eq_false c, led_cons_ge (by grind)]
      show Res.bind (Res.bind ((m_minus (F t) (F e.s)).bind _) _) _ = _
      rw [mminus st (b.sz ge.s)]
      exact mapped_loop b l (t - e.s) (by grind) (ht.mid (ht.sub ge.s) (by grind) (by have := ge.g.s; grind)) fun y m => h y (List.mem_cons_of_mem _ m)
theorem mapped_m {D N : Nat} {l : List Er} {t : Rat} (hl : l.length ≤ 1000000) (b : Big D N) (h0 : 0 ≤ t) (ht : Dv D N t) (h : ∀ e ∈ l, Ge D N e) : m_mapped (l.map G) (F t) = .ok ((ledR l t).map F) := by
  unfold m_mapped
  rw [sure_e hl fun e m => ⟨(h e m).g, b.sz (h e m).s⟩]
  show (m_sure_moment (enc (F t))).bind _ = _
  rw [sure_m h0]
  exact mapped_loop b l t h0 ht h
theorem mid' {D E N M : Nat} {p q : Rat} (h : Dv D N p) (h' : Dv E M q) (h0 : 0 ≤ q) (h1 : q ≤ p) (hd : D ∣ E) : Dv E N q := (h.den hd).mid h' h0 h1
theorem led_dv {S R B I N : Nat} : ∀ {l : List Er} {C : Nat} {t v : Rat}, (∀ e ∈ l, Gs S R B I N e) → Dv (S * C) N t → 0 ≤ t → ledR l t = some v → Dv (B * R * (S * C)) (N + N * N) v
  | [], _, _, _, _, _, _, q => nomatch q
  | e :: l, C, t, v, g, ht, h0, q => by
    have ge := g e List.mem_cons_self
    by_cases c : t < e.s
    · rw [led_cons_lt c] at q
      cases eb : e.b with
      | none => rw [byR_none eb] at q; exact nomatch q
      | some x =>
        rw [byR_some eb] at q
        cases q
        have h1 : Dv (S * C) N t := ht
        have h2 := ge.r.mul h1
        exact ((ge.b x eb).den (Nat.mul_assoc B R _ ▸ Nat.dvd_mul_right ..)).add (h2.den (by rw [Nat.mul_assoc]; exact Nat.dvd_mul_left ..))
    · rw [led_cons_ge (by grind)] at q
      have es := ge.g.s
      have h2 : Dv (S * C) N (t - e.s) := ht.mid (ht.sub (ge.s.den (Nat.dvd_mul_right ..))) (by grind) (by grind)
      exact led_dv (fun y m => g y (List.mem_cons_of_mem _ m)) h2 (by grind) q
/-- what the pieces are like -/
structure Pc (S R B I C N M : Nat) (y : Er) : Prop where
  g : GoodE y
  s : Dv (S * C) M y.s
  r : Dv R N y.r
  b : ∀ x, y.b = some x → Dv (B * R * (S * C)) (N + N * N) x
  i : y.r ≠ 0 → Dv I N (1 / y.r)
theorem pieces_pc {S R B I C N M K : Nat} {lo hi : Rat} (hlo : Dv C K lo) (hhi : Dv C M hi) (h0 : 0 ≤ lo) : ∀ {l : List Er} {b : Rat}, (∀ e ∈ l, Gs S R B I N e) → (∃ L, Dv S L b) → 0 ≤ b → ∀ y ∈ piecesR l b lo hi, Pc S R B I C N M y
  | [], b, _, hb, b0, y, m => by
    obtain ⟨L, hb⟩ := hb
    have m' : y ∈ (if Max.max b lo < hi then [⟨hi - Max.max b lo, none, 0⟩] else ([] : List Er)) := m
    by_cases c : Max.max b lo < hi
    · rw [if_pos c] at m'
      rw [List.mem_singleton.mp m']
      have d1 : Dv (S * C) (L + K) (Max.max b lo) := Dv.max (hb.to (Nat.dvd_mul_right ..) (by omega)) (hlo.to (Nat.dvd_mul_left ..) (by omega))
      have d2 : Dv (S * C) M hi := hhi.den (Nat.dvd_mul_left ..)
      exact ⟨⟨(by show 0 < hi - Max.max b lo; grind), Rat.le_refl, (fun _ q => nomatch q), fun _ => rfl⟩, d2.mid (d2.sub d1) (by grind) (by grind), dv0, (fun _ q => nomatch q), fun q => absurd rfl q⟩
    · rw [if_neg c] at m'; exact nomatch m'
  | a :: l, b, g, hb, b0, y, m => by
    have ga := g a List.mem_cons_self
    have as := ga.g.s
    have m' : y ∈ (if Max.max b lo < Min.min (b + a.s) hi then [⟨Min.min (b + a.s) hi - Max.max b lo, byR a (Max.max b lo - b), a.r⟩] else []) ++ piecesR l (b + a.s) lo hi := m
    rcases List.mem_append.mp m' with m | m
    · by_cases c : Max.max b lo < Min.min (b + a.s) hi
      · rw [if_pos c] at m
        have gy := pieces_good (l := [a]) (b := b) (lo := lo) (hi := hi) (fun e q => by rw [List.mem_singleton.mp q]; exact ga.g) y (by
          show y ∈ (if Max.max b lo < Min.min (b + a.s) hi then [⟨Min.min (b + a.s) hi - Max.max b lo, byR a (Max.max b lo - b), a.r⟩] else []) ++ piecesR [] (b + a.s) lo hi
          rw [if_pos c]
          exact List.mem_append_left _ m)
        rw [List.mem_singleton.mp m] at gy ⊢
        obtain ⟨L, hb⟩ := hb
        have e1 : Dv (S * C) (L + N + K + M) b := hb.to (Nat.dvd_mul_right ..) (by omega)
        have e2 : Dv (S * C) (L + N + K + M) (b + a.s) := ((hb.add ga.s).to (Nat.dvd_mul_right ..) (by omega))
        have e3 : Dv (S * C) (L + N + K + M) lo := hlo.to (Nat.dvd_mul_left ..) (by omega)
        have e4 : Dv (S * C) (L + N + K + M) hi := hhi.to (Nat.dvd_mul_left ..) (by omega)
        have d2 : Dv (S * C) M hi := hhi.den (Nat.dvd_mul_left ..)
        have d3 : Dv (S * C) N (Max.max b lo - b) := (ga.s.den (Nat.dvd_mul_right ..)).mid ((e1.max e3).sub e1) (by grind) (by grind)
        refine ⟨gy, d2.mid ((e2.min e4).sub (e1.max e3)) (by grind) (by grind), ga.r, fun x hx => ?_, ga.i⟩
        have hx' : byR a (Max.max b lo - b) = some x := hx
        cases ab : a.b with
        | none => rw [byR_none ab] at hx'; exact nomatch hx'
        | some z =>
          rw [byR_some ab] at hx'
          cases hx'
          exact ((ga.b z ab).den (Nat.mul_assoc B R _ ▸ Nat.dvd_mul_right ..)).add ((ga.r.mul d3).den (by rw [Nat.mul_assoc]; exact Nat.dvd_mul_left ..))
      · rw [if_neg c] at m; exact nomatch m
    · exact pieces_pc hlo hhi h0 (fun y m => g y (List.mem_cons_of_mem _ m)) (let ⟨L, h⟩ := hb; ⟨L + N, h.add ga.s⟩) (by grind) y m
section
variable {So Ro Bo Io Si Ri Bi Ii N : Nat}
theorem div_one_div {p q : Rat} (h : q ≠ 0) : p / q = p * (1 / q) := by rw [Rat.div_def, Rat.div_def, Rat.one_mul]
theorem through_gs {inner : List Er} {e : Er} (hN : 1 ≤ N) (gi : ∀ y ∈ inner, Gs Si Ri Bi Ii N y) (ge : Gs So Ro Bo Io N e) : ∀ y ∈ throughR inner e, Gs (So * (Si * Bo * Io)) (Ro * Ri) (Bi * Ri * (Si * Bo)) (Io * Ii) ((N + N) * (N + N)) y := by
  intro y m
  have gg := through_good (fun y m => (gi y m).g) ge.g y m
  have n1 : N ≤ N * N := Nat.le_mul_of_pos_right _ (by omega)
  have n4 : (N + N) * (N + N) = N * N + N * N + (N * N + N * N) := by grind
  have n2 : N ≤ (N + N) * (N + N) := by omega
  have n3 : N + N * N ≤ (N + N) * (N + N) := by omega
  cases hb : e.b with
  | none =>
    rw [through_none hb] at m
    rw [List.mem_singleton.mp m]
    have r0 := ge.g.n hb
    refine ⟨ge.g, ge.s.to (Nat.dvd_mul_right ..) n2, by rw [r0]; exact dv0, fun x q => ?_, by rw [r0, Rat.zero_mul]; exact dv0, fun q => absurd r0 q⟩
    rw [hb] at q; exact nomatch q
  | some x =>
    have dx := ge.b x hb
    have x0 := ge.g.b x hb
    by_cases hr : e.r = 0
    · rw [through_dwell hb hr] at m
      rw [List.mem_singleton.mp m] at gg ⊢
      refine ⟨gg, ge.s.to (Nat.dvd_mul_right ..) n2, dv0, fun v q => ?_, by show Dv _ _ (0 * e.s); rw [Rat.zero_mul]; exact dv0, fun q => absurd rfl q⟩
      exact (led_dv gi (dx.den (Nat.dvd_mul_left Bo Si)) x0 q).up n3
    · rw [through_run hb hr] at m
      obtain ⟨z, mz, rfl⟩ := List.mem_map.mp m
      have pz := pieces_pc (M := N + N) dx (dx.add ge.p) x0 gi ⟨0, dv0⟩ Rat.le_refl z mz
      have hi := ge.i hr
      have es : (paceR e.r z).s = z.s * (1 / e.r) := div_one_div hr
      have ds : Dv (Si * Bo * Io) ((N + N) * N) (z.s * (1 / e.r)) := pz.s.mul hi
      refine ⟨gg, by rw [es]; exact ds.to (Nat.dvd_mul_left ..) (Nat.mul_le_mul_left _ (by omega)), (ge.r.mul pz.r).up (Nat.mul_le_mul (by omega) (by omega)), fun v q => (pz.b v q).up n3, ?_, fun q => ?_⟩
      · have e1 : (paceR e.r z).r * (paceR e.r z).s = z.r * z.s := by
          show e.r * z.r * (z.s / e.r) = z.r * z.s
          have : z.s / e.r * e.r = z.s := Rat.div_mul_cancel hr
          grind
        rw [e1]
        exact (pz.r.mul pz.s).to (by rw [Nat.mul_assoc]; exact Nat.dvd_mul_left ..) (Nat.mul_le_mul (by omega) (by omega))
      · have q' : e.r * z.r ≠ 0 := q
        have hz : z.r ≠ 0 := fun w => q' (by rw [w, Rat.mul_zero])
        have e1 : 1 / (e.r * z.r) = (1 / e.r) * (1 / z.r) := by
          rw [Rat.div_def, Rat.div_def, Rat.div_def, Rat.inv_mul_rev]
          grind
        show Dv _ _ (1 / (e.r * z.r))
        rw [e1]
        exact (hi.mul (pz.i hz)).up (Nat.mul_le_mul (by omega) (by omega))
theorem through_len (inner : List Er) (e : Er) : (throughR inner e).length ≤ inner.length + 1 := by
  cases hb : e.b with
  | none => rw [through_none hb]; show 1 ≤ _; omega
  | some x =>
    by_cases hr : e.r = 0
    · rw [through_dwell hb hr]; show 1 ≤ _; omega
    · rw [through_run hb hr, List.length_map]; exact pieces_len ..
theorem flat_len (inner : List Er) : ∀ (outer : List Er), (outer.flatMap (throughR inner)).length ≤ outer.length * (inner.length + 1)
  | [] => Nat.zero_le _
  | e :: l => by
    have := through_len inner e
    have := flat_len inner l
    rw [List.flatMap_cons, List.length_append, show (e :: l).length = l.length + 1 from rfl, Nat.succ_mul]
    omega
theorem over_len (outer inner : List Er) : (overR outer inner).length ≤ outer.length * (inner.length + 1) := Nat.le_trans (tidy_len _) (flat_len ..)
end
theorem push_gs {S R B I N M : Nat} {st : List Er} {e : Er} (h : ∀ x ∈ st, Gs S R B I N x) (he : Gs S R B I M e) : ∀ x ∈ pushR st e, Gs S R B I (N + M) x := by
  intro x m
  unfold pushR at m
  cases st with
  | nil => rw [List.mem_singleton.mp m]; exact he.up (by omega)
  | cons a r =>
    simp only at m
    by_cases c : onB a e = true
    · rw [if_pos c] at m
      rcases List.mem_cons.mp m with rfl | m
      · have ha := h a List.mem_cons_self
        have er : a.r = e.r := by
          unfold onB at c
          have h1 := ha.g.n
          have h2 := he.g.n
          revert c h1 h2
          cases a.b <;> cases e.b <;> intro c h1 h2
          · rw [h1 rfl, h2 rfl]
          · exact nomatch c
          · exact nomatch c
          · simp only [Bool.and_eq_true, decide_eq_true_eq] at c
            exact c.1
        have gm := push_good (st := [a]) (e := e) (fun x q => by rw [List.mem_singleton.mp q]; exact ha.g) he.g (mergeR a e) (by unfold pushR; simp only; rw [if_pos c]; exact List.mem_cons_self)
        refine ⟨gm, ha.s.add he.s, ha.r.up (by omega), fun x q => (ha.b x q).up (by omega), ?_, fun q => (ha.i q).up (by omega)⟩
        show Dv B (N + M) (a.r * (a.s + e.s))
        rw [Rat.mul_add]
        exact ha.p.add (er ▸ he.p)
      · exact (h x (List.mem_cons_of_mem _ m)).up (by omega)
    · rw [if_neg c] at m
      rcases List.mem_cons.mp m with rfl | m
      · exact he.up (by omega)
      · exact (h x m).up (by omega)
theorem fold_gs {S R B I N : Nat} : ∀ (l st : List Er) (k : Nat), (∀ x ∈ st, Gs S R B I (N * k) x) → (∀ x ∈ l, Gs S R B I N x) → ∀ x ∈ l.foldl pushR st, Gs S R B I (N * (k + l.length)) x
  | [], _, _, h, _ => h
  | e :: l, st, k, h, hl => by
    have := fold_gs l (pushR st e) (k + 1) (fun x m => by rw [Nat.mul_succ]; exact push_gs h (hl e List.mem_cons_self) x m) fun y m => hl y (List.mem_cons_of_mem _ m)
    rw [show k + (e :: l).length = k + 1 + l.length by show k + (l.length + 1) = _; omega]
    exact this
theorem tidy_gs {S R B I N : Nat} {l : List Er} (h : ∀ x ∈ l, Gs S R B I N x) : ∀ x ∈ tidyR l, Gs S R B I (N * (l.length + 1)) x := fun x m =>
  (fold_gs l [] 0 (fun _ m => nomatch m) h x (noLast_mem (List.mem_reverse.mp m))).up (Nat.mul_le_mul_left _ (by omega))
theorem fold_app {l m : List Er} {f : Er → List Er} : True := trivial
/-- what comes of over, of a size -/
def ON (N k : Nat) : Nat := (N + N) * (N + N) * (k + 1)
end A

set_option Elab.async false
set_option linter.all false
set_option maxRecDepth 100000
set_option maxHeartbeats 2000000
namespace A
open PySem PySem.Spec PyProof.Rows L2 Y
open Y.Enc (enc)
/-! # loops with a measure, slices, rising lists -/
theorem Ok.while {S R : Type} {f : S → Res (Fl S R)} (I : S → Prop) (Q : S → Prop) (μ : S → Nat) (hf : ∀ s, I s → Ok (f s) fun r => (∃ s', r = .nx s' ∧ I s' ∧ μ s' < μ s) ∨ ∃ s', r = .bk s' ∧ Q s') : ∀ (n : Nat) {s : S}, μ s < n → I s → Ok (whileR n s f) fun r => ∃ s', r = .bk s' ∧ Q s'
  | 0, s, h, _ => absurd h (Nat.not_lt_zero _)
  | n + 1, s, h, hI => by
    refine Ok.bind (hf s hI) ?_
    rintro r (⟨s', rfl, h', hm⟩ | ⟨s', rfl, q⟩)
    · exact Ok.while I Q μ hf n (by omega) h'
    · exact Ok.pure ⟨s', rfl, q⟩
theorem cut_to {α : Type} {l : List α} {i : Int} (h0 : 0 ≤ i) (h1 : i ≤ (l.length : Int)) : cutL l none (some i) = l.take i.toNat := by
  obtain ⟨n, rfl⟩ : ∃ n : Nat, i = (n : Int) := ⟨i.toNat, by omega⟩
  unfold cutL
  rw [HT.sIx_nat, HT.sIx_none, List.drop_zero, Int.toNat_natCast, show min n l.length - 0 = n by omega]
theorem cut_from {α : Type} {l : List α} {i : Int} (h0 : 0 ≤ i) (h1 : i ≤ (l.length : Int)) : cutL l (some i) none = l.drop i.toNat := by
  obtain ⟨n, rfl⟩ : ∃ n : Nat, i = (n : Int) := ⟨i.toNat, by omega⟩
  unfold cutL
  rw [HT.sIx_nat, HT.sIx_none, Int.toNat_natCast, show min n l.length = n by omega]
  exact List.take_of_length_le (by rw [List.length_drop]; exact Nat.le_refl _)
theorem cut_map {α β : Type} (g : α → β) (l : List α) (lo hi : Option Int) : cutL (l.map g) lo hi = (cutL l lo hi).map g := by
  unfold cutL
  rw [List.length_map, List.map_take, List.map_drop]
theorem cut_last {α : Type} (l : List α) : cutL l none (some (-1)) = l.dropLast := by
  unfold cutL
  rw [HT.sIx_none, List.drop_zero, Nat.sub_zero, List.dropLast_eq_take]
  congr 1
  unfold HT.sIx
  simp
  omega
/-- rising -/
abbrev Inc (l : List Rat) : Prop := l.Pairwise (· < ·)
theorem inc_ext : ∀ {l m : List Rat}, Inc l → Inc m → (∀ x, x ∈ l ↔ x ∈ m) → l = m
  | [], [], _, _, _ => rfl
  | [], y :: m, _, _, h => nomatch (h y).mpr List.mem_cons_self
  | x :: l, [], _, _, h => nomatch (h x).mp List.mem_cons_self
  | x :: l, y :: m, hl, hm, h => by
    have hl' := List.pairwise_cons.mp hl
    have hm' := List.pairwise_cons.mp hm
    have e : x = y := by
      rcases List.mem_cons.mp ((h x).mp List.mem_cons_self) with e | e
      · exact e
      · rcases List.mem_cons.mp ((h y).mpr List.mem_cons_self) with e' | e'
        · exact e'.symm
        · have a := hm'.1 x e
          have b := hl'.1 y e'
          grind
    subst e
    congr 1
    refine inc_ext hl'.2 hm'.2 fun z => ⟨fun q => ?_, fun q => ?_⟩
    · rcases List.mem_cons.mp ((h z).mp (List.mem_cons_of_mem _ q)) with e | e
      · have := hl'.1 z q; rw [e] at this; exact absurd this Rat.lt_irrefl
      · exact e
    · rcases List.mem_cons.mp ((h z).mpr (List.mem_cons_of_mem _ q)) with e | e
      · have := hm'.1 z q; rw [e] at this; exact absurd this Rat.lt_irrefl
      · exact e
theorem inc_app {l m : List Rat} : Inc (l ++ m) ↔ Inc l ∧ Inc m ∧ ∀ x ∈ l, ∀ y ∈ m, x < y := List.pairwise_append
theorem inc_get {l : List Rat} (h : Inc l) {i j : Nat} {x y : Rat} (hi : l[i]? = some x) (hj : l[j]? = some y) (hij : i < j) : x < y := by
  obtain ⟨h1, rfl⟩ := List.getElem?_eq_some_iff.mp hi
  obtain ⟨h2, rfl⟩ := List.getElem?_eq_some_iff.mp hj
  exact List.pairwise_iff_getElem.mp h i j h1 h2 hij
theorem Ok.ixF {δ : Type} {l : List Rat} {i : Int} {k : Fr → Res δ} {ψ : δ → Prop} (h0 : 0 ≤ i) (h1 : i < (l.length : Int)) (h : ∀ e, e ∈ l → l[i.toNat]? = some e → Ok (k (F e)) ψ) : Ok ((ixR (l.map F) i).bind k) ψ := by
  refine Ok.ix h0 (by rw [List.length_map]; exact h1) fun x m q => ?_
  rw [List.getElem?_map] at q
  cases e : l[i.toNat]? with
  | none => rw [e] at q; exact nomatch q
  | some y =>
    rw [e] at q
    cases q
    exact h y (List.mem_of_getElem? e) e
/-- the borders: begins and ends, rising -/
def bordR : List Er → Rat → List Rat | [], b => [b] | e :: l, b => b :: bordR l (b + e.s)
theorem bord_ge : ∀ {l : List Er} {b : Rat}, (∀ e ∈ l, 0 < e.s) → ∀ x ∈ bordR l b, b ≤ x
  | [], b, _, x, m => by rw [List.mem_singleton.mp m]; exact Rat.le_refl
  | e :: l, b, g, x, m => by
    rcases List.mem_cons.mp m with rfl | m
    · exact Rat.le_refl
    · have := bord_ge (fun y m => g y (List.mem_cons_of_mem _ m)) x m
      have := g e List.mem_cons_self
      grind
theorem bord_inc : ∀ {l : List Er} {b : Rat}, (∀ e ∈ l, 0 < e.s) → Inc (bordR l b)
  | [], b, _ => List.pairwise_singleton ..
  | e :: l, b, g => by
    refine List.pairwise_cons.mpr ⟨fun x m => ?_, bord_inc fun y m => g y (List.mem_cons_of_mem _ m)⟩
    have := bord_ge (fun y m => g y (List.mem_cons_of_mem _ m)) x m
    have := g e List.mem_cons_self
    grind
theorem bord_len : ∀ (l : List Er) (b : Rat), (bordR l b).length = l.length + 1
  | [], _ => rfl
  | e :: l, b => congrArg Nat.succ (bord_len l _)
theorem bord_sum : ∀ (l : List Er) (b : Rat), b + sumR l ∈ bordR l b
  | [], b => by show b + 0 ∈ [b]; rw [Rat.add_zero]; exact List.mem_singleton.mpr rfl
  | e :: l, b => by
    have := bord_sum l (b + e.s)
    show b + (e.s + sumR l) ∈ b :: bordR l (b + e.s)
    rw [← Rat.add_assoc]
    exact List.mem_cons_of_mem _ this
theorem bord_le : ∀ {l : List Er} {b : Rat}, (∀ e ∈ l, 0 < e.s) → ∀ x ∈ bordR l b, x ≤ b + sumR l
  | [], b, _, x, m => by rw [List.mem_singleton.mp m]; show b ≤ b + 0; grind
  | e :: l, b, g, x, m => by
    have g' := fun y m => g y (List.mem_cons_of_mem e m)
    have := g e List.mem_cons_self
    have := sumR_nn g'
    show x ≤ b + (e.s + sumR l)
    rcases List.mem_cons.mp m with rfl | m
    · grind
    · have := bord_le g' x m
      grind
theorem bord_dv {D N : Nat} : ∀ {l : List Er} {b : Rat} {M : Nat}, (∀ e ∈ l, Ge D N e) → Dv D M b → ∀ x ∈ bordR l b, Dv D (M + N * l.length) x
  | [], b, M, _, hb, x, m => by rw [List.mem_singleton.mp m]; exact hb.up (by omega)
  | e :: l, b, M, g, hb, x, m => by
    rcases List.mem_cons.mp m with rfl | m
    · exact hb.up (by omega)
    · have := bord_dv (fun y m => g y (List.mem_cons_of_mem _ m)) (hb.add (g e List.mem_cons_self).s) x m
      exact this.up (by show M + N + N * l.length ≤ M + N * (l.length + 1); rw [Nat.mul_succ]; omega)
theorem bord_walk {D N : Nat} {R : Type} {pl : Fr → Fr → Res Fr} (hpl : ∀ p q, Sz p → Sz q → pl (F p) (F q) = .ok (F (p + q))) : ∀ (l : List Er) (pre : List Rat) (b : Rat) (i : Nat), Big D (N * (i + l.length + 1)) → pre.length + l.length ≤ 900000 → Dv D (N * i) b → (∀ e ∈ l, Ge D N e) →
    forR (l.map G) (pre.map F ++ [F b]) (fun x24 (a23 : List Fr) => (ixR a23 (-1)).bind fun x47 => (pl x47 x24.a).bind fun x51 => guardR (a23.length < 1000000) <| (.ok (.nx (a23 ++ [x51])) : Res (Fl (List Fr) R))) = .ok (.nx ((pre ++ bordR l b).map F))
  | [], pre, b, i, _, _, _, _ => by
    show Res.ok (Fl.nx (pre.map F ++ [F b])) = .ok (.nx ((pre ++ [b]).map F))
    rw [List.map_append]
    rfl
  | e :: l, pre, b, i, hB, hp, hb, g => by
    have ge := g e List.mem_cons_self
    have hp' : pre.length + (l.length + 1) ≤ 900000 := hp
    have n1 : N * i ≤ N * (i + (e :: l).length + 1) := Nat.mul_le_mul_left _ (by omega)
    have n2 : N ≤ N * (i + (e :: l).length + 1) := Nat.le_mul_of_pos_right _ (Nat.succ_pos _)
    show Res.bind (Res.bind (ixR (pre.map F ++ [F b]) (-1)) _) _ = _
    rw [ix_last]
    show Res.bind (Res.bind (pl (F b) (F e.s)) _) _ = _
    rw [hpl b e.s (hB.sz (hb.up n1)) (hB.sz (ge.s.up n2))]
    show Res.bind (guardR ((pre.map F ++ [F b]).length < 1000000) _) _ = _
    unfold guardR
    rw [if_pos (by rw [List.length_append, List.length_map]; show pre.length + 1 < 1000000; omega)]
    have := bord_walk (R := R) hpl l (pre ++ [b]) (b + e.s) (i + 1) (by rw [show i + 1 + l.length + 1 = i + (e :: l).length + 1 by show _ = i + (l.length + 1) + 1; omega]; exact hB) (by rw [List.length_append]; show pre.length + 1 + l.length ≤ _; omega) (by rw [Nat.mul_succ]; exact hb.add ge.s) fun y m => g y (List.mem_cons_of_mem _ m)
    rw [List.map_append] at this
    show forR (l.map G) (pre.map F ++ [F b] ++ [F (b + e.s)]) _ = _
    rw [show (pre ++ bordR (e :: l) b).map F = ((pre ++ [b]) ++ bordR l (b + e.s)).map F by rw [List.append_assoc]; rfl]
    exact this
/-- q put into a rising list -/
theorem ranked_ok {ms : List Rat} {q : Rat} (hl : ms.length ≤ 900000) (hs : ∀ x ∈ ms, Sz x) (sq : Sz q) (hi : Inc ms) : Ok (l_ranked (ms.map F) (F q)) fun r => ∃ ms', r.2 = ms'.map F ∧ Inc ms' ∧ (∀ x, x ∈ ms' ↔ x ∈ ms ∨ x = q) ∧ ms'.length ≤ ms.length + 1 := by
  unfold l_ranked
  refine Ok.lt ?_
  rw [List.length_map]
  refine Ok.bind (Ok.while (fun a : Int => 0 ≤ a ∧ a ≤ (ms.length : Int) ∧ ∀ x ∈ ms.drop a.toNat, q < x) (fun a : Int => (0 ≤ a ∧ a ≤ (ms.length : Int) ∧ ∀ x ∈ ms.drop a.toNat, q < x) ∧ (a = 0 ∨ ∃ x, ms[(a - 1).toNat]? = some x ∧ x ≤ q)) Int.toNat (fun a hI => ?_) _ (by omega) ⟨by omega, by omega, fun x m => by rw [List.drop_eq_nil_of_le (by omega)] at m; exact nomatch m⟩) ?_
  · obtain ⟨a0, a1, ha⟩ := hI
    refine Ok.ite (fun c => ?_) fun c => ?_
    · have c' := of_decide_eq_true c
      refine Ok.ixF (by omega) (by omega) fun x mx ex => Ok.bindE (lless sq (hs x mx)) (Ok.ite (fun d => ?_) fun d => ?_)
      · have d' := of_decide_eq_true d
        refine Ok.lt (Ok.pure (.inl ⟨_, rfl, ⟨by omega, by omega, fun y my => ?_⟩, by omega⟩))
        rw [List.drop_eq_getElem_cons (show (a - 1).toNat < ms.length by omega)] at my
        rcases List.mem_cons.mp my with e | my
        · rw [e, ← Option.some.inj ((List.getElem?_eq_getElem (show (a - 1).toNat < ms.length by omega)).symm.trans ex).symm]; exact d'
        · rw [show (a - 1).toNat + 1 = a.toNat by omega] at my
          exact ha y my
      · exact Ok.pure (.inr ⟨_, rfl, ⟨a0, a1, ha⟩, .inr ⟨x, ex, by have := of_decide_eq_false d; grind⟩⟩)
    · have c' := of_decide_eq_false c
      exact Ok.pure (.inr ⟨_, rfl, ⟨a0, a1, ha⟩, .inl (by omega)⟩)
  · rintro _ ⟨a, rfl, ⟨a0, a1, ha⟩, hx⟩
    have ins : (∀ x ∈ ms.take a.toNat, x < q) → ∃ ms' : List Rat, insL (ms.map F) a (F q) = ms'.map F ∧ Inc ms' ∧ (∀ x, x ∈ ms' ↔ x ∈ ms ∨ x = q) ∧ ms'.length ≤ ms.length + 1 := fun ht => by
      refine ⟨ms.take a.toNat ++ [q] ++ ms.drop a.toNat, ?_, ?_, fun x => ?_, ?_⟩
      · unfold insL
        simp only [List.map_append, List.map_take, List.map_drop]
        rfl
      · have hi2 := hi
        rw [← List.take_append_drop a.toNat ms] at hi2
        obtain ⟨i1, i2, i3⟩ := inc_app.mp hi2
        rw [inc_app, inc_app]
        refine ⟨⟨i1, List.pairwise_singleton .., fun x mx y my => by rw [List.mem_singleton.mp my]; exact ht x mx⟩, i2, fun x mx y my => ?_⟩
        rcases List.mem_append.mp mx with mx | mx
        · exact i3 x mx y my
        · rw [List.mem_singleton.mp mx]; exact ha y my
      · conv => rhs; lhs; rw [← List.take_append_drop a.toNat ms]
        simp only [List.mem_append, List.mem_singleton]
        constructor
        · rintro ((h | h) | h)
          · exact .inl (.inl h)
          · exact .inr h
          · exact .inl (.inr h)
        · rintro ((h | h) | h)
          · exact .inl (.inl h)
          · exact .inr h
          · exact .inl (.inr h)
      · have e := congrArg List.length (List.take_append_drop a.toNat ms)
        rw [List.length_append] at e
        simp only [List.length_append, List.length_singleton]
        omega
    have gd : ms.length < 1000000 ∧ 0 ≤ a ∧ a < 2 ^ 63 := ⟨by omega, a0, by omega⟩
    by_cases c : a = 0
    · refine Ok.bind (φ := fun r => r = true) (Ok.iteT (decide_eq_true c) (Ok.pure rfl)) ?_
      rintro _ rfl
      obtain ⟨ms', e, h⟩ := ins (fun x m => by rw [c] at m; exact nomatch m)
      exact Ok.iteT rfl (Ok.guard gd (Ok.pure ⟨ms', e, h⟩))
    · rcases hx with hx | ⟨x, ex, hxq⟩
      · exact absurd hx c
      refine Ok.bind (φ := fun r => r = !decide (x = q)) (Ok.iteF (decide_eq_false c) (Ok.ixF (by omega) (by omega) fun y my ey => Ok.guard (okF _ _) (Ok.pure ?_))) ?_
      · rw [ex] at ey
        cases ey
        rw [eqF]
      · rintro _ rfl
        by_cases d : x = q
        · refine Ok.iteF (by rw [decide_eq_true d]; rfl) (Ok.pure ⟨ms, rfl, hi, fun z => ⟨.inl, fun h => h.elim id fun h => ?_⟩, by omega⟩)
          rw [h, ← d]
          exact List.mem_of_getElem? ex
        · refine Ok.iteT (by rw [decide_eq_false d]; rfl) ?_
          have ht : ∀ y ∈ ms.take a.toNat, y < q := fun y my => by
            obtain ⟨j, hj⟩ := List.getElem?_of_mem my
            have hjl : j < a.toNat := by
              have := (List.getElem?_eq_some_iff.mp hj).1
              rw [List.length_take] at this
              omega
            rw [List.getElem?_take_of_lt hjl] at hj
            by_cases hjj : j = (a - 1).toNat
            · rw [hjj, ex] at hj
              cases hj
              grind
            · have := inc_get hi hj ex (by omega)
              grind
          obtain ⟨ms', e, h⟩ := ins ht
          exact Ok.guard gd (Ok.pure ⟨ms', e, h⟩)
end A

set_option Elab.async false
set_option linter.all false
set_option maxRecDepth 100000
set_option maxHeartbeats 2000000
namespace A
open PySem PySem.Spec PyProof.Rows L2 Y
open Y.Enc (enc)
def DX : Nat := DD * DD * 55440
def NX : Nat := 2 * (NN * NN)
theorem bigX : Big (DX * 2) (NX * 200) := big_of
theorem Big.half {D N : Nat} (b : Big (D * 2) N) : Big D N := by
  have := b.p
  have h1 : 0 < D := Nat.pos_of_ne_zero fun z => by rw [z] at this; exact absurd this (by decide)
  exact ⟨h1, Nat.lt_of_le_of_lt (Nat.le_mul_of_pos_right _ (by decide)) b.d, b.n⟩
theorem bigX1 : Big DX (NX * 200) := bigX.half
/-- a list of edits, of a size -/
def GL (n : Nat) (x : List Ed) : Prop := ∃ l : List Er, x = l.map G ∧ l.length ≤ n ∧ ∀ e ∈ l, Ge DX NX e
theorem GL.len {n : Nat} {x : List Ed} (h : GL n x) : x.length ≤ n := by
  obtain ⟨l, rfl, hl, _⟩ := h
  rw [List.length_map]
  exact hl
theorem GL.app {n m : Nat} {x y : List Ed} (h : GL n x) (h' : GL m y) : GL (n + m) (x ++ y) := by
  obtain ⟨l, rfl, hl, g⟩ := h
  obtain ⟨l', rfl, hl', g'⟩ := h'
  exact ⟨l ++ l', by rw [List.map_append], by rw [List.length_append]; omega, fun e m => (List.mem_append.mp m).elim (g e) (g' e)⟩
theorem GL.cut {n : Nat} {x : List Ed} (h : GL n x) (lo hi : Option Int) : GL n (cutL x lo hi) := by
  obtain ⟨l, rfl, hl, g⟩ := h
  exact ⟨cutL l lo hi, cut_map .., Nat.le_trans cutL_len hl, fun e m => g e (cutL_mem m)⟩
theorem GL.up {n m : Nat} {x : List Ed} (h : GL n x) (hn : n ≤ m) : GL m x := by
  obtain ⟨l, e, hl, g⟩ := h
  exact ⟨l, e, Nat.le_trans hl hn, g⟩
theorem GL.one {e : Er} (h : Ge DX NX e) : GL 1 [G e] := ⟨[e], rfl, Nat.le_refl _, fun y m => by rw [List.mem_singleton.mp m]; exact h⟩
theorem Ok.ltG {α β : Type} {d : α} {k : α → Res β} {φ : α → Prop} {ψ : β → Prop} (p : φ d) (h : ∀ x, φ x → Ok (k x) ψ) : Ok (Y.lt d k) ψ := h d p
/-- lists of edits -/
def GS (n : Nat) (L : List (List Ed)) : Prop := L.length = n ∧ ∀ x ∈ L, GL 40 x
theorem GS.app {n m : Nat} {x y : List (List Ed)} (h : GS n x) (h' : GS m y) : GS (n + m) (x ++ y) := ⟨by rw [List.length_append, h.1, h'.1], fun z q => (List.mem_append.mp q).elim (h.2 z) (h'.2 z)⟩
theorem gs1 {n : Nat} {x : List Ed} (h : GL n x) (hn : n ≤ 40) : GS 1 [x] := ⟨rfl, fun z m => by rw [List.mem_singleton.mp m]; exact h.up hn⟩
theorem gs2 {n m : Nat} {x y : List Ed} (h : GL n x) (h' : GL m y) (hn : n ≤ 40) (hm : m ≤ 40) : GS 2 [x, y] := (gs1 h hn).app (gs1 h' hm)
theorem gs3 {n m k : Nat} {x y z : List Ed} (h : GL n x) (h' : GL m y) (h'' : GL k z) (hn : n ≤ 40) (hm : m ≤ 40) (hk : k ≤ 40) : GS 3 [x, y, z] := (gs1 h hn).app (gs2 h' h'' hm hk)
theorem dvd12 {x : Int} (h0 : 0 ≤ x) (h : x < 12) : (1 + x).toNat ∣ 27720 := by
  have : x = 0 ∨ x = 1 ∨ x = 2 ∨ x = 3 ∨ x = 4 ∨ x = 5 ∨ x = 6 ∨ x = 7 ∨ x = 8 ∨ x = 9 ∨ x = 10 ∨ x = 11 := by omega
  rcases this with rfl | rfl | rfl | rfl | rfl | rfl | rfl | rfl | rfl | rfl | rfl | rfl <;> decide
theorem unit_pos {k : Int} (h : 1 ≤ k) : 0 < Rat.divInt 1 k := by
  have h3 : ((k : Int) : Rat) ≠ 0 := fun y => by have := Rat.intCast_eq_zero_iff.mp y; omega
  have e : Rat.divInt 1 k * (k : Rat) = 1 := by
    rw [Rat.divInt_eq_div]
    exact Rat.div_mul_cancel h3
  have h0 : 0 ≤ Rat.divInt 1 k := Rat.divInt_nonneg (by decide) (by omega)
  have h1 : Rat.divInt 1 k ≠ 0 := fun z => by
    rw [z, Rat.zero_mul] at e
    exact absurd e (by decide)
  grind
theorem changed_ok {st : List Int} {l : List Er} (h : Gd st) (hl : l.length ≤ 7) (hg : ∀ e ∈ l, GX NN e) : Ok (l_changed st (l.map G)) fun r => GL 40 r.1 := by
  unfold l_changed
  have sX : ∀ {q : Rat} {D N : Nat}, Dv D N q → D ∣ DX → N ≤ NX * 200 → Sz q := fun h hd hn => bigX1.sz (h.to hd hn)
  have dX : DD ∣ DX := by decide
  have gl : GL 7 (l.map G) := ⟨l, rfl, hl, fun e m => ((hg e m).ge (Nat.le_refl _)).to dX (by decide)⟩
  refine dg h (by decide) (bg (by decide)) fun x1 s1 a1 b1 h1 => ?_
  refine dg (gd3 h1) (by unfold maxI; split <;> omega) (bg (by unfold maxI; rw [List.length_map]; split <;> omega)) fun x2 s2 a2 b2 h2 => ?_
  refine dg (gd3 h2) (by decide) (bg (by decide)) fun x3 s3 a3 b3 h3 => Ok.low (by omega) (by omega) ?_
  have dm : Dv 27720 1 (Rat.divInt 1 (1 + x3)) := Dv.of (by omega) (dvd12 a3 b3) (by show 1 ≤ 1 * _; omega)
  have pm := unit_pos (k := 1 + x3) (by omega)
  generalize Rat.divInt 1 (1 + x3) = m at *
  refine Ok.bind (φ := fun b => b = false → x1 ≠ 0 ∧ l ≠ []) (Ok.ite (fun _ => Ok.pure fun z => nomatch z) fun c => Ok.guard (ok_nil _) (Ok.pure fun z => ?_)) fun b hb => Ok.ite (fun _ => ?_) fun c => ?_
  · rw [eq_nil] at z
    refine ⟨of_decide_eq_false c, fun e => ?_⟩
    rw [e] at z
    exact nomatch z
  · refine Ok.bind (edits_ok (gd3 h3) (by decide) (by decide)) fun ⟨r, s⟩ ⟨⟨l2, e2, hl2, g2⟩, _⟩ => Ok.pure ⟨l2, e2, Nat.le_trans hl2 (by decide), fun e m => (g2 e m).to dX (by decide)⟩
  obtain ⟨x10, hne⟩ := hb c
  have hlen : 0 < l.length := List.length_pos_iff.mpr hne
  have b2' : x2 < (l.length : Int) := by
    have : maxI 1 (((l.map G).length : Nat) : Int) ≤ (l.length : Int) := by unfold maxI; rw [List.length_map]; split <;> omega
    omega
  refine Ok.ixG (γ := Unit) a2 b2' fun e me ee => ?_
  have ge := hg e me
  have gX : Ge DX NX e := (ge.ge (Nat.le_refl _)).to dX (by decide)
  have es := ge.g.s
  refine Ok.ltG (φ := fun x => ∃ l', x = l'.map G ∧ l'.length ≤ 7 ∧ ∀ e ∈ l', GX NN e) ⟨cutL l none (some x2), cut_map .., Nat.le_trans cutL_len hl, fun e m => hg e (cutL_mem m)⟩ fun ah hah => ?_
  have gah : GL 7 ah := by
    obtain ⟨l', e', hl', g'⟩ := hah
    exact ⟨l', e', hl', fun e m => ((g' e m).ge (Nat.le_refl _)).to dX (by decide)⟩
  refine Ok.ltG (gl.cut (some (x2 + 1)) none) fun bh gbh => ?_
  refine Ok.bindE (lplus (sX ge.s (by decide) (by decide)) (sX dm (by decide) (by decide))) ?_
  have g1 : Ge DX NX ⟨e.s + m, e.b, e.r⟩ := ⟨⟨(by show 0 < e.s + m; grind), ge.g.r, ge.g.b, ge.g.n⟩, ((ge.s.den (by decide)).add (dm.den (E := DX) (by decide))).up (by decide), gX.r, gX.b⟩
  have L : ∀ {n : Nat} {x : List Ed}, GL n x → x.length ≤ n := fun h => h.len
  refine Ok.ltG (GL.one g1) fun y1 gy1 => ?_
  have q1 := gah.app gy1
  have q2 := q1.app gbh
  refine Ok.guard (by have := L gah; have := L gy1; omega) (Ok.guard (by have := L q1; have := L gbh; omega) (Ok.ltG q2 fun y2 gy2 => ?_))
  have q3 := gah.app gbh
  refine Ok.guard (by have := L gah; have := L gbh; omega) (Ok.ltG (gs3 gl gy2 q3 (by decide) (by decide) (by decide)) fun z1 gz1 => ?_)
  obtain ⟨la, rfl, hla, gla⟩ := hah
  refine Ok.bind (edit_ok (gd3 h3) (by decide) (Nat.le_refl _) gla (by omega)) fun ⟨ne, s4⟩ ⟨⟨e4, ene, ge4⟩, h4⟩ => ?_
  simp only at ene h4
  subst ene
  have g4 : Ge DX NX e4 := ⟨ge4.g, ge4.s.to (by decide) (by decide), ge4.r.to (by decide) (by decide), fun x q => (ge4.b x q).to (by decide) (by decide)⟩
  refine Ok.ltG (GL.one g4) fun y3 gy3 => Ok.guard (by have := L gah; have := L gy3; omega) (Ok.ltG (gl.cut (some x2) none) fun y4 gy4 => ?_)
  have q4 := gah.app gy3
  have q5 := q4.app gy4
  refine Ok.guard (by have := L q4; have := L gy4; omega) (Ok.ltG q5 fun y5 gy5 => ?_)
  have g5 : Ge DX NX ⟨m, none, 0⟩ := ⟨⟨pm, Rat.le_refl, (fun _ q => nomatch q), fun _ => rfl⟩, dm.to (by decide) (by decide), Dv.int (a := 0) (by decide), fun _ q => nomatch q⟩
  refine Ok.ltG (GL.one g5) fun y6 gy6 => Ok.guard (by have := L gl; have := L gy6; omega) (Ok.ltG (gl.app gy6) fun y7 gy7 => ?_)
  refine Ok.ltG (gs2 gy5 gy7 (by decide) (by decide)) fun z2 gz2 => Ok.guard (by rw [gz1.1, gz2.1]; decide) (Ok.ltG (gah.cut none (some (-1))) fun y8 gy8 => ?_)
  refine Ok.ixG (γ := Unit) a2 b2' fun e' me' ee' => ?_
  refine Ok.ltG (GL.one (((hg e' me').ge (Nat.le_refl _)).to dX (by decide))) fun y9 gy9 => Ok.guard (by have := L gy8; have := L gy9; omega) (Ok.ltG (gah.cut (some (-1)) none) fun y10 gy10 => ?_)
  have q6 := gy8.app gy9
  have q7 := q6.app gy10
  refine Ok.guard (by have := L q6; have := L gy10; omega) (Ok.ltG q7 fun y11 gy11 => Ok.guard (by have := L gy11; have := L gbh; omega) ?_)
  have gz12 := gz1.app gz2
  refine Ok.ltG (gs2 (gy11.app gbh) gl (by decide) (by decide)) fun z3 gz3 => Ok.guard (by rw [gz12.1, gz3.1]; decide) (Ok.ltG (gz12.app gz3) fun z4 gz4 => ?_)
  have dh : Dv (D0 * 2) (N1 * 1) (e.s * Rat.divInt 1 2) := ge.s.mul half_dv
  have ph : 0 < e.s * Rat.divInt 1 2 := by rw [divInt_half]; grind
  refine Ok.bindE (by rw [half_F]; exact ltimes (sX ge.s (by decide) (by decide)) (sX half_dv (by decide) (by decide))) ?_
  generalize e.s * Rat.divInt 1 2 = hf at *
  have dhX : Dv DX NX hf := dh.to (by decide) (by decide)
  have lens : ∀ {n k : Nat} {x y : List Ed}, GL n x → GL k y → n + k ≤ 1000000 → x.length + y.length ≤ 1000000 := fun h h' hn => by have := L h; have := L h'; omega
  refine Ok.bind (φ := fun r => GS 9 r) ?_ fun a ga => Ok.ixm a1 (by rw [ga.1]; omega) fun r mr => Ok.pure (ga.2 r mr)
  cases eb : e.b with
  | none =>
    have r0 := ge.g.n eb
    refine Ok.iteT (show isNonD (enc (e.b.map F)) = true by rw [eb]; rfl) ?_
    have g6 : Ge DX NX ⟨hf, none, e.r⟩ := ⟨⟨ph, ge.g.r, (fun _ q => nomatch q), fun _ => r0⟩, dhX, gX.r, fun _ q => nomatch q⟩
    refine Ok.ltG (show GL 2 [G ⟨hf, none, e.r⟩, G ⟨hf, none, e.r⟩] from (GL.one g6).app (GL.one g6)) fun y12 gy12 => ?_
    have q8 := gah.app gy12
    refine Ok.guard (lens gah gy12 (by decide)) (Ok.guard (lens q8 gbh (by decide)) (Ok.ltG (q8.app gbh) fun y13 gy13 => ?_))
    refine Ok.ltG (gs1 gy13 (by decide)) fun z5 gz5 => Ok.guard (by rw [gz4.1, gz5.1]; decide) ?_
    have g7 : Ge DX NX ⟨e.s, some m, 0⟩ := ⟨⟨es, Rat.le_refl, (fun x q => by cases q; grind), fun q => nomatch q⟩, gX.s, Dv.int (a := 0) (by decide), fun x q => by cases q; exact dm.to (by decide) (by decide)⟩
    refine Ok.ltG (GL.one g7) fun y14 gy14 => ?_
    have q9 := gah.app gy14
    refine Ok.guard (lens gah gy14 (by decide)) (Ok.guard (lens q9 gbh (by decide)) (Ok.ltG (q9.app gbh) fun y15 gy15 => ?_))
    have gz45 := gz4.app gz5
    refine Ok.ltG (gs1 gy15 (by decide)) fun z6 gz6 => Ok.guard (by rw [gz45.1, gz6.1]; decide) (Ok.ltG (gz45.app gz6) fun z7 gz7 => Ok.pure gz7)
  | some x =>
    have x0 := ge.g.b x eb
    have dx := ge.b x eb
    have sm : someR (G e).b = .ok (F x) := by show someR (e.b.map F) = _; rw [eb]; rfl
    have drh : Dv DX (NN * NN) (e.r * hf) := (ge.r.mul dh).to (by decide) (by decide)
    have p0 := Rat.mul_nonneg ge.g.r (show 0 ≤ hf by grind)
    refine Ok.iteF (show isNonD (enc (e.b.map F)) = false by rw [eb]; rfl) (Ok.bindE (ltimes (sX ge.r (by decide) (by decide)) (sX dhX (by decide) (by decide))) (Ok.bindE sm (Ok.bindE (lplus (sX dx (by decide) (by decide)) (sX drh (by decide) (by decide))) ?_)))
    have g6 : Ge DX NX ⟨hf, e.b, e.r⟩ := ⟨⟨ph, ge.g.r, ge.g.b, ge.g.n⟩, dhX, gX.r, gX.b⟩
    have g6' : Ge DX NX ⟨hf, some (x + e.r * hf), e.r⟩ := ⟨⟨ph, ge.g.r, (fun y q => by cases q; grind), fun q => nomatch q⟩, dhX, gX.r, fun y q => by cases q; exact ((dx.den (E := DX) (by decide)).add drh).up (by decide)⟩
    refine Ok.ltG (show GL 2 [G ⟨hf, e.b, e.r⟩, G ⟨hf, some (x + e.r * hf), e.r⟩] from (GL.one g6).app (GL.one g6')) fun y12 gy12 => ?_
    have q8 := gah.app gy12
    refine Ok.guard (lens gah gy12 (by decide)) (Ok.guard (lens q8 gbh (by decide)) (Ok.ltG (q8.app gbh) fun y13 gy13 => ?_))
    refine Ok.ltG (gs1 gy13 (by decide)) fun z5 gz5 => Ok.guard (by rw [gz4.1, gz5.1]; decide) (Ok.bindE sm (Ok.bindE (lplus (sX dx (by decide) (by decide)) (sX dm (by decide) (by decide))) ?_))
    have dxm : Dv DX NX (x + m) := ((dx.den (E := DX) (by decide)).add (dm.den (E := DX) (by decide))).up (by decide)
    have g7 : Ge DX NX ⟨e.s, some (x + m), e.r⟩ := ⟨⟨es, ge.g.r, (fun y q => by cases q; grind), fun q => nomatch q⟩, gX.s, gX.r, fun y q => by cases q; exact dxm⟩
    refine Ok.ltG (GL.one g7) fun y14 gy14 => ?_
    have q9 := gah.app gy14
    refine Ok.guard (lens gah gy14 (by decide)) (Ok.guard (lens q9 gbh (by decide)) (Ok.ltG (q9.app gbh) fun y15 gy15 => ?_))
    have gz45 := gz4.app gz5
    rw [setR_in (by decide) (by rw [gz45.1]; decide)]
    have gz6 : GS 8 ((z4 ++ z5).set 0 y15) := ⟨by rw [List.length_set, gz45.1], fun y my => by
      rcases List.mem_or_eq_of_mem_set my with q | q
      · exact gz45.2 y q
      · rw [q]; exact gy15.up (by decide)⟩
    refine Ok.bindE (a := (z4 ++ z5).set 0 y15) rfl (Ok.bindE (lplus (sX ge.r (by decide) (by decide)) (sX dm (by decide) (by decide))) ?_)
    have drm : Dv DX NX (e.r + m) := ((ge.r.den (E := DX) (by decide)).add (dm.den (E := DX) (by decide))).up (by decide)
    have g8 : Ge DX NX ⟨e.s, e.b, e.r + m⟩ := ⟨⟨es, (by show 0 ≤ e.r + m; have := ge.g.r; grind), ge.g.b, fun q => (by rw [show e.b = none from q] at eb; exact nomatch eb)⟩, gX.s, drm, gX.b⟩
    refine Ok.ltG (GL.one g8) fun y16 gy16 => ?_
    have q10 := gah.app gy16
    refine Ok.guard (lens gah gy16 (by decide)) (Ok.guard (lens q10 gbh (by decide)) (Ok.ltG (q10.app gbh) fun y17 gy17 => ?_))
    exact Ok.ltG (gs1 gy17 (by decide)) fun z7 gz7 => Ok.guard (by rw [gz6.1, gz7.1]; decide) (Ok.pure (gz6.app gz7))

theorem bord_m {D N : Nat} {l : List Er} (hl : l.length ≤ 900000) (b : Big D (N * (l.length + 1))) (g : ∀ e ∈ l, Ge D N e) : m_borders_of (l.map G) = .ok ((bordR l 0).map F) := by
  have := bord_walk (R := List Fr) (pl := m_plus) (fun p q hp hq => mplus hp hq) l [] 0 0 (by rw [Nat.zero_add]; exact b) (by show 0 + _ ≤ _; omega) (Dv.int (a := 0) (Nat.zero_le _)) g
  unfold m_borders_of
  show Res.bind (forR (l.map G) (([] : List Rat).map F ++ [F 0]) _) _ = _
  rw [this]
  rfl
theorem bord_l {D N : Nat} {l : List Er} (hl : l.length ≤ 900000) (b : Big D (N * (l.length + 1))) (g : ∀ e ∈ l, Ge D N e) : l_borders (l.map G) = .ok ((bordR l 0).map F) := by
  have := bord_walk (R := List Fr) (pl := l_plus) (fun p q hp hq => lplus hp hq) l [] 0 0 (by rw [Nat.zero_add]; exact b) (by show 0 + _ ≤ _; omega) (Dv.int (a := 0) (Nat.zero_le _)) g
  unfold l_borders
  show Res.bind (forR (l.map G) (([] : List Rat).map F ++ [F 0]) _) _ = _
  rw [this]
  rfl
structure Jn (a b xs : List Rat) (at_ : Int) (P : List Rat) : Prop where
  a0 : 0 ≤ at_
  a1 : at_ ≤ (b.length : Int)
  p : Inc P
  x : Inc xs
  px : ∀ u ∈ P, ∀ v ∈ xs, u < v
  pb : ∀ u ∈ P, ∀ v ∈ b.drop at_.toNat, u < v
  m : ∀ z, (z ∈ P ∨ z ∈ xs ∨ z ∈ b.drop at_.toNat) ↔ (z ∈ a ∨ z ∈ b)
  l : P.length + xs.length + (b.length - at_.toNat) ≤ a.length + b.length
theorem drop_at {b : List Rat} {i : Int} {y : Rat} (h0 : 0 ≤ i) (h : b[i.toNat]? = some y) : b.drop i.toNat = y :: b.drop (i + 1).toNat ∧ i.toNat < b.length := by
  obtain ⟨h1, rfl⟩ := List.getElem?_eq_some_iff.mp h
  refine ⟨?_, h1⟩
  rw [List.drop_eq_getElem_cons h1, show (i + 1).toNat = i.toNat + 1 by omega]
theorem joined_ok {a b : List Rat} (hl : a.length + b.length ≤ 900000) (ha : Inc a) (hb : Inc b) (sa : ∀ x ∈ a, Sz x) (sb : ∀ x ∈ b, Sz x) : Ok (m_joined_borders (a.map F) (b.map F)) fun r => ∃ P, r = P.map F ∧ Inc P ∧ (∀ x, x ∈ P ↔ x ∈ a ∨ x ∈ b) ∧ P.length ≤ a.length + b.length := by
  unfold m_joined_borders
  rw [List.length_map]
  have bInc : ∀ {i : Int} {y : Rat}, 0 ≤ i → b[i.toNat]? = some y → ∀ v ∈ b.drop (i + 1).toNat, y < v := fun {i y} h0 h v mv => by
    have e := (drop_at h0 h).1
    have hd : Inc (b.drop i.toNat) := hb.sublist (List.drop_sublist ..)
    rw [e] at hd
    exact (List.pairwise_cons.mp hd).1 v mv
  refine Ok.bind (Ok.forM (fun xs (s : Int × List Fr) => ∃ P, s.2 = P.map F ∧ Jn a b xs s.1 P ∧ ∀ x ∈ xs, Sz x) ?_ (l := a) ⟨[], rfl, ⟨by simp, by simp only; omega, List.Pairwise.nil, ha, (fun _ m => nomatch m), (fun _ m => nomatch m), fun z => by simp, by simp⟩, sa⟩) ?_
  · rintro d xs ⟨i, s2⟩ ⟨P, e2, j, sx⟩
    simp only at e2 j
    subst e2
    have sd := sx d List.mem_cons_self
    refine Ok.bind (Ok.while (fun (s : Int × List Fr) => ∃ P, s.2 = P.map F ∧ Jn a b (d :: xs) s.1 P) (fun (s : Int × List Fr) => ∃ P, s.2 = P.map F ∧ Jn a b (d :: xs) s.1 P ∧ ∀ y, b[s.1.toNat]? = some y → d ≤ y) (fun s => b.length - s.1.toNat) (fun s hI => ?_) _ (by simp only; omega) ⟨P, rfl, j⟩) ?_
    · obtain ⟨i, s2⟩ := s
      obtain ⟨P, e2, j⟩ := hI
      simp only at e2 j
      subst e2
      have j0 := j.a0
      have j1 := j.a1
      have jl := j.l
      have jl' : P.length + (xs.length + 1) + (b.length - i.toNat) ≤ a.length + b.length := jl
      refine Ok.ite (fun c => ?_) fun c => ?_
      · have c' := of_decide_eq_true c
        refine Ok.ixF j0 c' fun y my ey => Ok.bindE (mless (sb y my) sd) (Ok.ite (fun lt => ?_) fun lt => ?_)
        · have lt' := of_decide_eq_true lt
          have ed := drop_at j0 ey
          refine Ok.ixF j0 c' fun y2 my2 ey2 => ?_
          rw [ey] at ey2
          cases ey2
          have md : y ∈ b.drop i.toNat := by rw [ed.1]; exact List.mem_cons_self
          refine Ok.guard (by rw [List.length_map]; omega) (Ok.lt (Ok.pure (.inl ⟨_, rfl, ⟨P ++ [y], by rw [List.map_append]; rfl, ?_⟩, by simp only; omega⟩)))
          refine ⟨by simp only; omega, by simp only; omega, ?_, j.x, fun u mu v mv => ?_, fun u mu v mv => ?_, fun z => ?_, ?_⟩
          · rw [inc_app]
            exact ⟨j.p, List.pairwise_singleton .., fun u mu v mv => by rw [List.mem_singleton.mp mv]; exact j.pb u mu y md⟩
          · rcases List.mem_append.mp mu with mu | mu
            · exact j.px u mu v mv
            · rw [List.mem_singleton.mp mu]
              rcases List.mem_cons.mp mv with e | mv
              · rw [e]; exact lt'
              · have := (List.pairwise_cons.mp j.x).1 v mv
                grind
          · rcases List.mem_append.mp mu with mu | mu
            · exact j.pb u mu v (by rw [ed.1]; exact List.mem_cons_of_mem _ mv)
            · rw [List.mem_singleton.mp mu]
              exact bInc j0 ey v mv
          · rw [← j.m z, ed.1]
            simp only [List.mem_append, List.mem_cons, List.not_mem_nil, or_false]
            constructor
            · rintro ((h | h) | h | h)
              · exact .inl h
              · exact .inr (.inr (.inl h))
              · exact .inr (.inl h)
              · exact .inr (.inr (.inr h))
            · rintro (h | h | h | h)
              · exact .inl (.inl h)
              · exact .inr (.inl h)
              · exact .inl (.inr h)
              · exact .inr (.inr h)
          · simp only [List.length_append, List.length_cons, List.length_nil]
            omega
        · have lt' := of_decide_eq_false lt
          refine Ok.pure (.inr ⟨_, rfl, P, rfl, j, fun z ez => ?_⟩)
          simp only at ez
          rw [ey] at ez
          cases ez
          grind
      · have c' := of_decide_eq_false c
        refine Ok.pure (.inr ⟨_, rfl, P, rfl, j, fun z ez => ?_⟩)
        have := (List.getElem?_eq_some_iff.mp ez).1
        simp only at this
        omega
    · rintro _ ⟨⟨i, s2⟩, rfl, P, e2, j, hd⟩
      simp only at e2 j hd
      subst e2
      have j0 := j.a0
      have j1 := j.a1
      have jl : P.length + (xs.length + 1) + (b.length - i.toNat) ≤ a.length + b.length := j.l
      have xd := List.pairwise_cons.mp j.x
      -- the place behind
      refine Ok.bind (φ := fun i' => Jn a b xs i' (P ++ [d])) (Ok.bind (φ := fun c => c = decide (b[i.toNat]? = some d)) (Ok.ite (fun c => ?_) fun c => ?_) ?_) ?_
      · have c' := of_decide_eq_true c
        refine Ok.ixF j0 c' fun y my ey => Ok.guard (okF _ _) (Ok.pure ?_)
        rw [eqF, ey]
        exact decide_eq_decide.mpr ⟨fun h => by rw [h], fun h => Option.some.inj h⟩
      · have c' := of_decide_eq_false c
        refine Ok.pure ?_
        rw [List.getElem?_eq_none (by omega)]
        exact (decide_eq_false (fun z => nomatch z)).symm
      · rintro _ rfl
        refine Ok.ite (fun c => ?_) fun c => ?_
        · have c' := of_decide_eq_true c
          have ed := drop_at j0 c'
          refine Ok.lt (Ok.pure ⟨by omega, by omega, ?_, xd.2, fun u mu v mv => ?_, fun u mu v mv => ?_, fun z => ?_, ?_⟩)
          · rw [inc_app]
            exact ⟨j.p, List.pairwise_singleton .., fun u mu v mv => by rw [List.mem_singleton.mp mv]; exact j.px u mu d List.mem_cons_self⟩
          · rcases List.mem_append.mp mu with mu | mu
            · exact j.px u mu v (List.mem_cons_of_mem _ mv)
            · rw [List.mem_singleton.mp mu]; exact xd.1 v mv
          · rcases List.mem_append.mp mu with mu | mu
            · exact j.pb u mu v (by rw [ed.1]; exact List.mem_cons_of_mem _ mv)
            · rw [List.mem_singleton.mp mu]; exact bInc j0 c' v mv
          · rw [← j.m z, ed.1]
            simp only [List.mem_append, List.mem_cons, List.not_mem_nil, or_false]
            constructor
            · rintro ((h | h) | h | h)
              · exact .inl h
              · exact .inr (.inl (.inl h))
              · exact .inr (.inl (.inr h))
              · exact .inr (.inr (.inr h))
            · rintro (h | (h | h) | h | h)
              · exact .inl (.inl h)
              · exact .inl (.inr h)
              · exact .inr (.inl h)
              · exact .inl (.inr h)
              · exact .inr (.inr h)
          · simp only [List.length_append, List.length_cons, List.length_nil]
            omega
        · have c' := of_decide_eq_false c
          refine Ok.pure ⟨j0, j1, ?_, xd.2, fun u mu v mv => ?_, fun u mu v mv => ?_, fun z => ?_, ?_⟩
          · rw [inc_app]
            exact ⟨j.p, List.pairwise_singleton .., fun u mu v mv => by rw [List.mem_singleton.mp mv]; exact j.px u mu d List.mem_cons_self⟩
          · rcases List.mem_append.mp mu with mu | mu
            · exact j.px u mu v (List.mem_cons_of_mem _ mv)
            · rw [List.mem_singleton.mp mu]; exact xd.1 v mv
          · rcases List.mem_append.mp mu with mu | mu
            · exact j.pb u mu v mv
            · rw [List.mem_singleton.mp mu]
              obtain ⟨k, hk⟩ := List.getElem?_of_mem mv
              rw [List.getElem?_drop] at hk
              have hlt : i.toNat < b.length := by have := (List.getElem?_eq_some_iff.mp hk).1; omega
              have h0 := hd _ (List.getElem?_eq_getElem hlt)
              have hne : b[i.toNat] ≠ d := fun q => c' (by rw [List.getElem?_eq_getElem hlt, q])
              by_cases k0 : k = 0
              · rw [k0, Nat.add_zero, List.getElem?_eq_getElem hlt] at hk
                cases hk
                grind
              · have := inc_get hb (List.getElem?_eq_getElem hlt) hk (by omega)
                grind
          · rw [← j.m z]
            simp only [List.mem_append, List.mem_cons, List.not_mem_nil, or_false]
            constructor
            · rintro ((h | h) | h | h)
              · exact .inl h
              · exact .inr (.inl (.inl h))
              · exact .inr (.inl (.inr h))
              · exact .inr (.inr h)
            · rintro (h | (h | h) | h)
              · exact .inl (.inl h)
              · exact .inl (.inr h)
              · exact .inr (.inl h)
              · exact .inr (.inr h)
          · simp only [List.length_append, List.length_cons, List.length_nil]
            omega
      · intro i' j'
        refine Ok.guard (by rw [List.length_map]; omega) (Ok.pure ⟨_, rfl, P ++ [d], by rw [List.map_append]; rfl, j', fun x m => sx x (List.mem_cons_of_mem _ m)⟩)
  · rintro _ ⟨⟨i, s2⟩, rfl, P, e2, j, _⟩
    simp only at e2 j
    subst e2
    have jl : P.length + 0 + (b.length - i.toNat) ≤ a.length + b.length := j.l
    have ec : cutL (b.map F) (some i) none = (b.drop i.toNat).map F := by rw [cut_map, cut_from j.a0 j.a1]
    show Ok (guardR ((P.map F).length + (cutL (b.map F) (some i) none).length ≤ 1000000) (.ok (P.map F ++ cutL (b.map F) (some i) none))) _
    rw [ec]
    refine Ok.guard (by rw [List.length_map, List.length_map, List.length_drop]; omega) (Ok.pure ⟨P ++ b.drop i.toNat, by rw [List.map_append], ?_, fun z => ?_, by rw [List.length_append, List.length_drop]; omega⟩)
    · rw [inc_app]
      exact ⟨j.p, hb.sublist (List.drop_sublist ..), j.pb⟩
    · rw [← j.m z]
      simp [List.mem_append]
theorem Ok.forP {α R : Type} {l : List α} {f : α → Unit → Res (Fl Unit R)} (p : α → Prop) (Q : R → Prop) (hf : ∀ x ∈ l, Ok (f x ()) fun r => (r = .nx () ∧ p x) ∨ ∃ v, r = .rt v ∧ Q v) : Ok (forR l () f) fun r => (r = .nx () ∧ ∀ x ∈ l, p x) ∨ ∃ v, r = .rt v ∧ Q v := by
  induction l with
  | nil => exact Ok.pure (.inl ⟨rfl, fun _ m => nomatch m⟩)
  | cons x xs ih =>
    refine Ok.bind (hf x List.mem_cons_self) ?_
    rintro r (⟨rfl, hp⟩ | ⟨v, rfl, hq⟩)
    · refine (ih fun y m => hf y (List.mem_cons_of_mem _ m)).mono ?_
      rintro r (⟨e, h⟩ | h)
      · exact .inl ⟨e, fun y m => (List.mem_cons.mp m).elim (fun e => e ▸ hp) (h y)⟩
      · exact .inr h
    · exact Ok.pure (.inr ⟨v, rfl, hq⟩)
theorem mem_enum {α : Type} {l : List α} {e : Tp2 Int α} (m : e ∈ enumL l) : ∃ i : Nat, e.a = (i : Int) ∧ l[i]? = some e.b := by
  obtain ⟨i, h⟩ := List.getElem?_of_mem m
  unfold enumL at h
  rw [List.getElem?_mapIdx] at h
  cases hx : l[i]? with
  | none => rw [hx] at h; exact nomatch h
  | some x => rw [hx] at h; cases h; exact ⟨i, rfl, hx⟩
theorem two_F : (⟨2, 1⟩ : Fr) = F 2 := rfl
def mid (x y : Rat) : Rat := (x + y) * Rat.divInt 1 2
theorem mid_two (x y : Rat) : (x + y) / 2 = mid x y := by
  unfold mid
  rw [divInt_half, Rat.div_def, Rat.div_def, Rat.one_mul]
theorem parted_ok {a b : List Er} (la : a.length ≤ 40) (lb : b.length ≤ 40) (ga : ∀ e ∈ a, Ge DX NX e) (gb : ∀ e ∈ b, Ge DX NX e) : Ok (m_parted (a.map G) (b.map G)) fun r => ∃ ms, Inc ms ∧ (∀ x, x ∈ ms ↔ x ∈ bordR a 0 ∨ x ∈ bordR b 0) ∧ ((∃ q, r = some (F q) ∧ 0 ≤ q ∧ Dv (DX * 2) (NX * 100) q ∧ ledR a q ≠ ledR b q) ∨ (r = none ∧ ∀ (i : Nat) x y, ms[i]? = some x → ms[i + 1]? = some y → ledR a x = ledR b x ∧ ledR a (mid x y) = ledR b (mid x y))) := by
  unfold m_parted
  have bb : ∀ {l : List Er}, l.length ≤ 40 → Big DX (NX * (l.length + 1)) := fun h => bigX1.less (Nat.mul_le_mul_left _ (by omega))
  have sz : ∀ {l : List Er}, (∀ e ∈ l, Ge DX NX e) → ∀ e ∈ l, GoodE e ∧ Sz e.s := fun g e m => ⟨(g e m).g, bigX1.sz ((g e m).s.up (by decide))⟩
  refine Ok.bindE (sure_e (by omega) (sz ga)) (Ok.bindE (sure_e (by omega) (sz gb)) (Ok.bindE (bord_m (by omega) (bb la) ga) (Ok.bindE (bord_m (by omega) (bb lb) gb) ?_)))
  have bd : ∀ {l : List Er}, l.length ≤ 40 → (∀ e ∈ l, Ge DX NX e) → ∀ x ∈ bordR l 0, Dv DX (NX * 40) x := fun h g x m => (bord_dv g (Dv.int (a := 0) (Nat.zero_le 0)) x m).up (by rw [Nat.zero_add]; exact Nat.mul_le_mul_left _ h)
  have b0 : ∀ {l : List Er}, (∀ e ∈ l, Ge DX NX e) → ∀ x ∈ bordR l 0, 0 ≤ x := fun g x m => bord_ge (good_pos g) x m
  refine Ok.bind (joined_ok (by rw [bord_len, bord_len]; omega) (bord_inc (good_pos ga)) (bord_inc (good_pos gb)) (fun x m => bigX1.sz ((bd la ga x m).up (by decide))) fun x m => bigX1.sz ((bd lb gb x m).up (by decide))).noErr ?_
  rintro _ ⟨ms, rfl, hi, hm, hl⟩
  rw [bord_len, bord_len] at hl
  have dm : ∀ x ∈ ms, Dv DX (NX * 40) x ∧ 0 ≤ x := fun x m => ((hm x).mp m).elim (fun m => ⟨bd la ga x m, b0 ga x m⟩) fun m => ⟨bd lb gb x m, b0 gb x m⟩
  have led : ∀ {l : List Er} {t : Rat}, l.length ≤ 40 → (∀ e ∈ l, Ge DX NX e) → 0 ≤ t → Dv (DX * 2) (NX * 100) t → m_mapped (l.map G) (F t) = .ok ((ledR l t).map F) := fun h g t0 dt => mapped_m (by omega) (bigX.less (by decide)) t0 dt fun e m => (g e m).to (Nat.dvd_mul_right ..) (by decide)
  rw [cut_map, cut_last]
  refine Ok.bind (Ok.forP (fun e => ∀ (i : Nat) x y, e = ⟨(i : Int), F x⟩ → ms[i]? = some x → ms[i + 1]? = some y → ledR a x = ledR b x ∧ ledR a (mid x y) = ledR b (mid x y)) (fun r => ∃ q, r = some (F q) ∧ 0 ≤ q ∧ Dv (DX * 2) (NX * 100) q ∧ ledR a q ≠ ledR b q) fun e me => ?_) ?_
  · obtain ⟨i, ea, eb⟩ := mem_enum me
    obtain ⟨ea', eb'⟩ := e
    simp only at ea eb
    subst ea
    rw [List.getElem?_map] at eb
    cases hx : ms.dropLast[i]? with
    | none => rw [hx] at eb; exact nomatch eb
    | some x =>
      rw [hx] at eb
      cases eb
      have hil := (List.getElem?_eq_some_iff.mp hx).1
      rw [List.length_dropLast] at hil
      have hx' : ms[i]? = some x := by
        rw [List.getElem?_dropLast, if_pos hil] at hx
        exact hx
      obtain ⟨dx, x0⟩ := dm x (List.mem_of_getElem? hx')
      refine Ok.ixF (show (0 : Int) ≤ (i : Int) + 1 by omega) (show (i : Int) + 1 < (ms.length : Int) by omega) fun y my ey => ?_
      rw [show ((i : Int) + 1).toNat = i + 1 by omega] at ey
      obtain ⟨dy, y0⟩ := dm y my
      have dmid : Dv (DX * 2) (NX * 100) (mid x y) := ((dx.add dy).mul half_dv).up (by decide)
      have s2 : Sz (2 : Rat) := bigX1.sz (Dv.int (D := DX) (N := NX * 200) (a := 2) (by decide))
      have mid0 : 0 ≤ mid x y := by unfold mid; rw [divInt_half]; grind
      refine Ok.bindE (mplus (bigX1.sz (dx.up (by decide))) (bigX1.sz (dy.up (by decide)))) (Ok.bindE (by rw [two_F, mshared (bigX1.sz ((dx.add dy).up (by decide))) s2 (by decide), mid_two]) ?_)
      refine Ok.bind (Ok.forP (fun t => ∀ q, t = F q → ledR a q = ledR b q) (fun r => ∃ v, r = .rt v ∧ ∃ q, v = some (F q) ∧ 0 ≤ q ∧ Dv (DX * 2) (NX * 100) q ∧ ledR a q ≠ ledR b q) fun t mt => ?_) ?_
      · obtain ⟨q, rfl, q0, dq⟩ : ∃ q, t = F q ∧ 0 ≤ q ∧ Dv (DX * 2) (NX * 100) q := by
          rcases List.mem_cons.mp mt with e | mt
          · exact ⟨x, e, x0, dx.to (Nat.dvd_mul_right ..) (by decide)⟩
          · exact ⟨mid x y, List.mem_singleton.mp mt, mid0, dmid⟩
        refine Ok.bindE (led la ga q0 dq) (Ok.bindE (led lb gb q0 dq) (Ok.guard (okO _ _) ?_))
        rw [eqO]
        by_cases c : ledR a q = ledR b q
        · exact Ok.iteF (by rw [decide_eq_true c]; rfl) (Ok.pure (.inl ⟨rfl, fun q' e => by rw [← F_inj e]; exact c⟩))
        · exact Ok.iteT (by rw [decide_eq_false c]; rfl) (Ok.pure (.inr ⟨_, rfl, _, rfl, q, rfl, q0, dq, c⟩))
      · rintro _ (⟨rfl, h⟩ | ⟨_, rfl, v, rfl, h⟩)
        · refine Ok.pure (.inl ⟨rfl, fun i' x' y' e hx2 hy2 => ?_⟩)
          have e1 : (i : Int) = (i' : Int) := congrArg Tp2.a e
          have e2 : F x = F x' := congrArg Tp2.b e
          have e1 : i = i' := by omega
          subst e1
          rw [hx'] at hx2
          rw [ey] at hy2
          cases hx2
          cases hy2
          exact ⟨h _ List.mem_cons_self x rfl, h _ (List.mem_cons_of_mem _ List.mem_cons_self) (mid x y) rfl⟩
        · exact Ok.pure (.inr ⟨v, rfl, h⟩)
  · rintro _ (⟨rfl, h⟩ | ⟨v, rfl, q, rfl, hq⟩)
    · refine Ok.pure ⟨ms, hi, hm, .inr ⟨rfl, fun i x y hx hy => ?_⟩⟩
      have hy1 := (List.getElem?_eq_some_iff.mp hy).1
      have hx1 : ms.dropLast[i]? = some x := by rw [List.getElem?_dropLast, if_pos (by omega)]; exact hx
      refine h ⟨(i : Int), F x⟩ ?_ i x y rfl hx hy
      refine List.mem_of_getElem? (i := i) ?_
      unfold enumL
      rw [List.getElem?_mapIdx, List.getElem?_map, hx1]
      rfl
    · exact Ok.pure ⟨ms, hi, hm, .inl ⟨q, rfl, hq⟩⟩

theorem last_none {ms : List Rat} {a b : List Er} (hi : Inc ms) (ga : ∀ e ∈ a, 0 < e.s) (gb : ∀ e ∈ b, 0 < e.s) (ha : ∀ x ∈ bordR a 0, x ∈ ms) (hb : ∀ x ∈ bordR b 0, x ∈ ms) {i : Nat} {x : Rat} (hx : ms[i]? = some x) (hl : ms[i + 1]? = none) : ledR a x = ledR b x := by
  have top : ∀ y ∈ ms, y ≤ x := fun y my => by
    obtain ⟨j, hj⟩ := List.getElem?_of_mem my
    have h1 := (List.getElem?_eq_some_iff.mp hj).1
    have h2 := List.getElem?_eq_none_iff.mp hl
    by_cases c : j = i
    · rw [c, hx] at hj; cases hj; exact Rat.le_refl
    · have := inc_get hi hj hx (by omega)
      grind
  have h1 := top _ (ha _ (bord_sum a 0))
  have h2 := top _ (hb _ (bord_sum b 0))
  rw [led_beyond (by grind) ga, led_beyond (by grind) gb]
theorem compL_none {α β : Type} {f : α → Unit → Res (Option β × Unit)} : ∀ {l : List α}, (∀ x ∈ l, f x () = .ok (none, ())) → compL l () f = .ok ([], ())
  | [], _ => rfl
  | x :: xs, h => by
    unfold compL
    rw [h x List.mem_cons_self]
    show ((compL xs () f).bind fun q => .ok (q.1, q.2)) = _
    rw [compL_none fun y m => h y (List.mem_cons_of_mem _ m)]
    rfl
theorem alike_ok {a b : List Er} {ms : List Rat} (la : a.length ≤ 40) (lb : b.length ≤ 40) (ga : ∀ e ∈ a, Ge DX NX e) (gb : ∀ e ∈ b, Ge DX NX e) (hi : Inc ms) (hm : ∀ x, x ∈ ms ↔ x ∈ bordR a 0 ∨ x ∈ bordR b 0) (h : ∀ (i : Nat) x y, ms[i]? = some x → ms[i + 1]? = some y → ledR a x = ledR b x ∧ ledR a (mid x y) = ledR b (mid x y)) : Ok (l_alike (a.map G) (b.map G)) fun r => r = true := by
  unfold l_alike
  have bb : ∀ {l : List Er}, l.length ≤ 40 → Big DX (NX * (l.length + 1)) := fun h => bigX1.less (Nat.mul_le_mul_left _ (by omega))
  have bd : ∀ {l : List Er}, l.length ≤ 40 → (∀ e ∈ l, Ge DX NX e) → ∀ x ∈ bordR l 0, Dv DX (NX * 40) x := fun h g x m => (bord_dv g (Dv.int (a := 0) (Nat.zero_le 0)) x m).up (by rw [Nat.zero_add]; exact Nat.mul_le_mul_left _ h)
  have b0 : ∀ {l : List Er}, (∀ e ∈ l, Ge DX NX e) → ∀ x ∈ bordR l 0, 0 ≤ x := fun g x m => bord_ge (good_pos g) x m
  refine Ok.bindE (bord_l (by omega) (bb la) ga) (Ok.bindE (bord_l (by omega) (bb lb) gb) (Ok.guard (by rw [List.length_map, List.length_map, bord_len, bord_len]; omega) ?_))
  rw [← List.map_append]
  have dB : ∀ x ∈ bordR a 0 ++ bordR b 0, Dv DX (NX * 40) x ∧ 0 ≤ x := fun x m => (List.mem_append.mp m).elim (fun m => ⟨bd la ga x m, b0 ga x m⟩) fun m => ⟨bd lb gb x m, b0 gb x m⟩
  refine Ok.bind (Ok.forM (fun xs (s : List Fr) => ∃ P, s = P.map F ∧ Inc P ∧ (∀ x, (x ∈ P ∨ x ∈ xs) ↔ x ∈ bordR a 0 ++ bordR b 0) ∧ P.length + xs.length ≤ 90) ?_ (l := bordR a 0 ++ bordR b 0) ⟨[], rfl, List.Pairwise.nil, fun x => by simp, by rw [List.length_append, bord_len, bord_len]; show 0 + _ ≤ _; omega⟩) ?_
  · rintro d xs _ ⟨P, rfl, iP, mP, lP⟩
    have lP' : P.length + (xs.length + 1) ≤ 90 := lP
    have hd := dB d ((mP d).mp (.inr List.mem_cons_self))
    refine Ok.bind (ranked_ok (by omega) (fun x m => bigX1.sz ((dB x ((mP x).mp (.inl m))).1.up (by decide))) (bigX1.sz (hd.1.up (by decide))) iP) ?_
    rintro ⟨_, _⟩ ⟨P', rfl, iP', mP', lP2⟩
    refine Ok.pure ⟨_, rfl, P', rfl, iP', fun x => ?_, by omega⟩
    rw [← mP x, mP' x, List.mem_cons]
    constructor
    · rintro ((h | h) | h)
      · exact .inl h
      · exact .inr (.inl h)
      · exact .inr (.inr h)
    · rintro (h | h | h)
      · exact .inl (.inl h)
      · exact .inl (.inr h)
      · exact .inr h
  · rintro _ ⟨_, rfl, P, rfl, iP, mP, lP⟩
    have e : P = ms := inc_ext iP hi fun x => by
      rw [hm x]
      have := mP x
      simp only [List.not_mem_nil, or_false, List.mem_append] at this
      exact this
    subst e
    have lP' : P.length ≤ 90 := lP
    have dm : ∀ x ∈ P, Dv DX (NX * 40) x ∧ 0 ≤ x := fun x m => dB x ((mP x).mp (.inl m))
    simp only [afterR, List.length_map]
    refine Ok.guard ⟨by omega, by omega⟩ ?_
    refine Ok.bind (forN 90 (fun i (s : List Fr) => ∃ Q : List Rat, s = (P ++ Q).map F ∧ Q.length = i ∧ ∀ z ∈ Q, ∃ (k : Nat) (x y : Rat), P[k]? = some x ∧ P[k + 1]? = some y ∧ z = mid x y) (fun k s i mk hi' hI => ?_) (i := 0) (by rw [rngI_len]; omega) ⟨[], by rw [List.append_nil], rfl, fun _ m => nomatch m⟩) ?_
    · obtain ⟨Q, rfl, hQ, hz⟩ := hI
      have hk := mem_rngI mk
      have at_ : ∀ {j : Int}, 0 ≤ j → j < (P.length : Int) → ∃ x, ixR ((P ++ Q).map F) j = .ok (F x) ∧ P[j.toNat]? = some x := fun {j} j0 j1 => by
        have hj : j.toNat < P.length := by omega
        obtain ⟨y, e1, e2, _⟩ := atI_in (l := (P ++ Q).map F) (i := j) j0 (by rw [List.length_map, List.length_append]; omega)
        rw [List.getElem?_map, List.getElem?_append_left hj, List.getElem?_eq_getElem hj] at e2
        cases e2
        exact ⟨P[j.toNat], by unfold ixR; rw [e1], List.getElem?_eq_getElem hj⟩
      obtain ⟨x, ex, hx⟩ := at_ hk.1 (by omega)
      obtain ⟨y, ey, hy⟩ := at_ (j := k + 1) (by omega) (by omega)
      rw [show (k + 1).toNat = k.toNat + 1 by omega] at hy
      obtain ⟨dx, x0⟩ := dm x (List.mem_of_getElem? hx)
      obtain ⟨dy, y0⟩ := dm y (List.mem_of_getElem? hy)
      refine Ok.bindE ex (Ok.bindE ey (Ok.bindE (lplus (bigX1.sz (dx.up (by decide))) (bigX1.sz (dy.up (by decide)))) (Ok.bindE (by rw [half_F]; exact ltimes (bigX1.sz ((dx.add dy).up (by decide))) (bigX1.sz (half_dv.to (by decide) (by decide)))) (Ok.guard (by rw [List.length_map, List.length_append]; omega) (Ok.pure ⟨_, rfl, Q ++ [mid x y], by rw [← List.append_assoc, List.map_append (l₁ := P ++ Q)]; rfl, by rw [List.length_append, hQ]; rfl, fun z m => ?_⟩)))))
      rcases List.mem_append.mp m with m | m
      · exact hz z m
      · exact ⟨k.toNat, x, y, hx, hy, List.mem_singleton.mp m⟩
    · rintro _ ⟨_, rfl, Q, rfl, hQ, hz⟩
      rw [rngI_len] at hQ
      have all : ∀ z ∈ P ++ Q, ledR a z = ledR b z ∧ 0 ≤ z ∧ Dv (DX * 2) (NX * 100) z := fun z m => by
        rcases List.mem_append.mp m with m | m
        · obtain ⟨dz, z0⟩ := dm z m
          refine ⟨?_, z0, dz.to (Nat.dvd_mul_right ..) (by decide)⟩
          obtain ⟨i, hi'⟩ := List.getElem?_of_mem m
          cases hn : P[i + 1]? with
          | some y => exact (h i z y hi' hn).1
          | none => exact last_none hi (good_pos ga) (good_pos gb) (fun x m => (hm x).mpr (.inl m)) (fun x m => (hm x).mpr (.inr m)) hi' hn
        · obtain ⟨k, x, y, hx, hy, rfl⟩ := hz z m
          obtain ⟨dx, x0⟩ := dm x (List.mem_of_getElem? hx)
          obtain ⟨dy, y0⟩ := dm y (List.mem_of_getElem? hy)
          exact ⟨(h k x y hx hy).2, by unfold mid; rw [divInt_half]; grind, ((dx.add dy).mul half_dv).up (by decide)⟩
      have lq : (P ++ Q).length ≤ 1000000 := by rw [List.length_append]; omega
      refine Ok.bindE (a := (([] : List Fr), ())) ?_ ?_
      · unfold compR guardR
        rw [if_pos (by rw [List.length_map]; exact lq)]
        refine compL_none fun x m => ?_
        obtain ⟨z, mz, rfl⟩ := List.mem_map.mp m
        obtain ⟨ez, z0, dz⟩ := all z mz
        rw [led_l (bigX.less (by decide) : Big (DX * 2) (NX * 100)) a z z0 dz fun e m => (ga e m).to (Nat.dvd_mul_right ..) (by decide)]
        show (l_led (b.map G) (F z)).bind _ = _
        rw [led_l (bigX.less (by decide) : Big (DX * 2) (NX * 100)) b z z0 dz fun e m => (gb e m).to (Nat.dvd_mul_right ..) (by decide)]
        show guardR _ (if (!(eqD (enc ((ledR a z).map F)) (enc ((ledR b z).map F)))) = true then _ else _) = _
        rw [eqO, decide_eq_true ez]
        unfold guardR
        rw [if_pos (okO _ _)]
        rfl
      · exact Ok.guard (okEq_of rfl rfl) (Ok.pure rfl)
theorem okL (l m : List Ed) : okEq (enc ([l, m] : List (List Ed))) (enc ([l, m] : List (List Ed))) := by
  have : eqOk 20 (enc ([l, m] : List (List Ed))) = true := by
    have h1 : ∀ l : List Ed, eqOk 19 (enc l) = true := fun l => by
      show eqOks 18 (l.map enc) = true
      induction l with
      | nil => rfl
      | cons x xs ih =>
        have : eqOk 18 (enc x) = true := by obtain ⟨a, b, c⟩ := x; cases b <;> rfl
        show (eqOk 18 (enc x) && eqOks 18 (xs.map enc)) = true
        rw [ih, this]; rfl
    show (eqOk 19 (enc l) && (eqOk 19 (enc m) && true)) = true
    rw [h1, h1]; rfl
  exact okEq_of this this
theorem eqL (l m : List Ed) : eqD (enc ([l, m] : List (List Ed))) (enc ([l, m] : List (List Ed))) = true := eqD_refl (okL l m).1
theorem right_ok {x y : List Ed} (hx : GL 40 x) (hy : GL 40 y) : Ok (l_right x y) fun r => r = true := by
  obtain ⟨a, rfl, la, ga⟩ := hx
  obtain ⟨b, rfl, lb, gb⟩ := hy
  unfold l_right
  refine Ok.bindE (a := a.map G) rfl (Ok.bindE (a := b.map G) rfl (Ok.bind (parted_ok la lb ga gb).noErr ?_))
  rintro r ⟨ms, hi, hm, h⟩
  refine Ok.guard (okL _ _) (Ok.iteF (by rw [eqL]; rfl) ?_)
  rcases h with ⟨q, rfl, q0, dq, hne⟩ | ⟨rfl, h⟩
  · have hn := Rat.num_nonneg.mpr q0
    have hd := den_pos q
    refine Ok.iteF rfl (Ok.iteT rfl (Ok.bindE (a := F q) rfl (Ok.iteF rfl (Ok.bindE (a := F q) rfl (Ok.iteF rfl (Ok.bindE (a := F q) rfl (Ok.iteF (decide_eq_false (show ¬ q.num < 0 by omega)) (Ok.bindE (a := F q) rfl (Ok.iteF (decide_eq_false (show ¬ (q.den : Int) < 1 by omega)) (Ok.bindE (a := F q) rfl ?_))))))))))
    refine Ok.bindE (led_l (bigX.less (by decide) : Big (DX * 2) (NX * 100)) a q q0 dq fun e m => (ga e m).to (Nat.dvd_mul_right ..) (by decide)) (Ok.bindE (a := F q) rfl (Ok.bindE (led_l (bigX.less (by decide) : Big (DX * 2) (NX * 100)) b q q0 dq fun e m => (gb e m).to (Nat.dvd_mul_right ..) (by decide)) (Ok.guard (okO _ _) (Ok.pure ?_))))
    rw [eqO, decide_eq_false hne]
    rfl
  · exact Ok.iteT rfl (Ok.bind (alike_ok la lb ga gb hi hm h) fun r e => Ok.pure e)
theorem law_ok (ns : List Int) (h : ns.length ≤ 63) : m_law ns = .ok true := by
  have q : Ok (m_law ns) fun r => r = true := by
    unfold m_law
    refine Ok.bind (cell_ok (by decide)) fun x1 _ => Ok.bind (edits_okX (.inl rfl) (by decide) (by decide)) ?_
    rintro ⟨l', s1⟩ ⟨⟨l, el, hl, hg⟩, _⟩
    simp only at el
    subst el
    have hl : l.length ≤ 7 := hl
    have gl : GL 40 (l.map G) := ⟨l, rfl, by omega, fun e m => ((hg e m).ge (Nat.le_refl _)).to (by decide) (by decide)⟩
    have gn : GL 40 ([] : List Ed) := ⟨[], rfl, by decide, fun e m => nomatch m⟩
    refine Ok.bind (right_ok gl gl) ?_
    rintro _ rfl
    refine Ok.iteT rfl (Ok.bind (right_ok gl gn) ?_)
    rintro _ rfl
    refine Ok.iteT rfl (Ok.guard (by have := cutL_len (l := ns) (lo := some 1) (hi := some 6); show 1 + _ ≤ _; omega) ?_)
    refine Ok.bind (Ok.for (fun _ => True) (fun x s _ _ => ?_) trivial) ?_
    · refine Ok.bind (changed_ok (.inl rfl) hl hg) ?_
      rintro ⟨y, s2⟩ gy
      refine Ok.bind (right_ok gl gy) ?_
      rintro _ rfl
      refine Ok.iteT rfl (Ok.bind (right_ok gy gl) ?_)
      rintro _ rfl
      exact Ok.iteT rfl (Ok.pure ⟨_, rfl, trivial⟩)
    · rintro _ ⟨_, rfl, _⟩
      obtain ⟨l2, e2, hl2, g2⟩ := gl
      rw [e2]
      refine Ok.bind (parted_ok hl2 hl2 g2 g2).noErr ?_
      rintro r ⟨ms, _, _, ⟨q, rfl, _, _, hne⟩ | ⟨rfl, _⟩⟩
      · exact absurd rfl hne
      · exact Ok.pure rfl
  obtain ⟨a, e, rfl⟩ := q
  exact e
end A

set_option Elab.async false
set_option linter.all false
set_option maxRecDepth 100000
set_option maxHeartbeats 4000000
namespace A
open PySem PySem.Spec PyProof.Rows L2 Y
open Y.Enc (enc)
theorem all_mk {l : PySem.W.OpenLaw} {w : World} {K : PySem.W.Frag} {h : Heap} {mg : Str → Option Value} {fa : Addr} (X : K.In h) (G : h.Ns mainGlobals mg) (hfa : mg "law" = some (.ref fa))
    {f_divisor : Addr} {od_divisor an_divisor : Option Addr} {sl_divisor : Array (Option Value)} {oc_divisor kV_divisor dc_divisor pm_divisor cd_divisor ct_divisor : Value}
    (a_divisor : PySem.W.nsIn K mainGlobals "divisor" = some (some (.ref f_divisor))) (l_divisor : K.lookup f_divisor = some ⟨oc_divisor, od_divisor, .func (PySem.W.fnOf "divisor" "divisor" (defArgs s_divisor) (defBody s_divisor) (defScope s_divisor) .none kV_divisor dc_divisor pm_divisor an_divisor cd_divisor ct_divisor), sl_divisor⟩) (c_divisor : PySem.W.codeIn K cd_divisor "divisor" = true) (k_divisor : PySem.W.keepIn K (.ref f_divisor) = true)
    {f_is_number : Addr} {od_is_number an_is_number : Option Addr} {sl_is_number : Array (Option Value)} {oc_is_number kV_is_number dc_is_number pm_is_number cd_is_number ct_is_number : Value}
    (a_is_number : PySem.W.nsIn K mainGlobals "is_number" = some (some (.ref f_is_number))) (l_is_number : K.lookup f_is_number = some ⟨oc_is_number, od_is_number, .func (PySem.W.fnOf "is_number" "is_number" (defArgs s_is_number) (defBody s_is_number) (defScope s_is_number) .none kV_is_number dc_is_number pm_is_number an_is_number cd_is_number ct_is_number), sl_is_number⟩) (c_is_number : PySem.W.codeIn K cd_is_number "is_number" = true) (k_is_number : PySem.W.keepIn K (.ref f_is_number) = true)
    {f_fraction : Addr} {od_fraction an_fraction : Option Addr} {sl_fraction : Array (Option Value)} {oc_fraction kV_fraction dc_fraction pm_fraction cd_fraction ct_fraction : Value} {T_fraction_ : Addr} {oT_fraction : Value} {dT_fraction : Option Addr} {nT_fraction : Nat} {sT_fraction : Array (Option Value)} {tk_fraction_bottom : Tok}
    (a_fraction : PySem.W.nsIn K mainGlobals "fraction" = some (some (.ref f_fraction))) (l_fraction : K.lookup f_fraction = some ⟨oc_fraction, od_fraction, .func (PySem.W.fnOf "fraction" "fraction" (defArgs s_fraction) (defBody s_fraction) (defScope s_fraction) (.ref T_fraction_) kV_fraction dc_fraction pm_fraction an_fraction cd_fraction ct_fraction), sl_fraction⟩) (c_fraction : PySem.W.codeIn K cd_fraction "fraction" = true) (k_fraction : PySem.W.keepIn K (.ref f_fraction) = true)
    (lT_fraction : K.lookup T_fraction_ = some ⟨oT_fraction, dT_fraction, .seq #[.int 1 tk_fraction_bottom] nT_fraction, sT_fraction⟩)
    {f_is_fraction : Addr} {od_is_fraction an_is_fraction : Option Addr} {sl_is_fraction : Array (Option Value)} {oc_is_fraction kV_is_fraction dc_is_fraction pm_is_fraction cd_is_fraction ct_is_fraction : Value}
    (a_is_fraction : PySem.W.nsIn K mainGlobals "is_fraction" = some (some (.ref f_is_fraction))) (l_is_fraction : K.lookup f_is_fraction = some ⟨oc_is_fraction, od_is_fraction, .func (PySem.W.fnOf "is_fraction" "is_fraction" (defArgs s_is_fraction) (defBody s_is_fraction) (defScope s_is_fraction) .none kV_is_fraction dc_is_fraction pm_is_fraction an_is_fraction cd_is_fraction ct_is_fraction), sl_is_fraction⟩) (c_is_fraction : PySem.W.codeIn K cd_is_fraction "is_fraction" = true) (k_is_fraction : PySem.W.keepIn K (.ref f_is_fraction) = true)
    {f_is_moment : Addr} {od_is_moment an_is_moment : Option Addr} {sl_is_moment : Array (Option Value)} {oc_is_moment kV_is_moment dc_is_moment pm_is_moment cd_is_moment ct_is_moment : Value}
    (a_is_moment : PySem.W.nsIn K mainGlobals "is_moment" = some (some (.ref f_is_moment))) (l_is_moment : K.lookup f_is_moment = some ⟨oc_is_moment, od_is_moment, .func (PySem.W.fnOf "is_moment" "is_moment" (defArgs s_is_moment) (defBody s_is_moment) (defScope s_is_moment) .none kV_is_moment dc_is_moment pm_is_moment an_is_moment cd_is_moment ct_is_moment), sl_is_moment⟩) (c_is_moment : PySem.W.codeIn K cd_is_moment "is_moment" = true) (k_is_moment : PySem.W.keepIn K (.ref f_is_moment) = true)
    {f_plus : Addr} {od_plus an_plus : Option Addr} {sl_plus : Array (Option Value)} {oc_plus kV_plus dc_plus pm_plus cd_plus ct_plus : Value}
    (a_plus : PySem.W.nsIn K mainGlobals "plus" = some (some (.ref f_plus))) (l_plus : K.lookup f_plus = some ⟨oc_plus, od_plus, .func (PySem.W.fnOf "plus" "plus" (defArgs s_plus) (defBody s_plus) (defScope s_plus) .none kV_plus dc_plus pm_plus an_plus cd_plus ct_plus), sl_plus⟩) (c_plus : PySem.W.codeIn K cd_plus "plus" = true) (k_plus : PySem.W.keepIn K (.ref f_plus) = true)
    {f_minus : Addr} {od_minus an_minus : Option Addr} {sl_minus : Array (Option Value)} {oc_minus kV_minus dc_minus pm_minus cd_minus ct_minus : Value}
    (a_minus : PySem.W.nsIn K mainGlobals "minus" = some (some (.ref f_minus))) (l_minus : K.lookup f_minus = some ⟨oc_minus, od_minus, .func (PySem.W.fnOf "minus" "minus" (defArgs s_minus) (defBody s_minus) (defScope s_minus) .none kV_minus dc_minus pm_minus an_minus cd_minus ct_minus), sl_minus⟩) (c_minus : PySem.W.codeIn K cd_minus "minus" = true) (k_minus : PySem.W.keepIn K (.ref f_minus) = true)
    {f_times : Addr} {od_times an_times : Option Addr} {sl_times : Array (Option Value)} {oc_times kV_times dc_times pm_times cd_times ct_times : Value}
    (a_times : PySem.W.nsIn K mainGlobals "times" = some (some (.ref f_times))) (l_times : K.lookup f_times = some ⟨oc_times, od_times, .func (PySem.W.fnOf "times" "times" (defArgs s_times) (defBody s_times) (defScope s_times) .none kV_times dc_times pm_times an_times cd_times ct_times), sl_times⟩) (c_times : PySem.W.codeIn K cd_times "times" = true) (k_times : PySem.W.keepIn K (.ref f_times) = true)
    {f_shared : Addr} {od_shared an_shared : Option Addr} {sl_shared : Array (Option Value)} {oc_shared kV_shared dc_shared pm_shared cd_shared ct_shared : Value}
    (a_shared : PySem.W.nsIn K mainGlobals "shared" = some (some (.ref f_shared))) (l_shared : K.lookup f_shared = some ⟨oc_shared, od_shared, .func (PySem.W.fnOf "shared" "shared" (defArgs s_shared) (defBody s_shared) (defScope s_shared) .none kV_shared dc_shared pm_shared an_shared cd_shared ct_shared), sl_shared⟩) (c_shared : PySem.W.codeIn K cd_shared "shared" = true) (k_shared : PySem.W.keepIn K (.ref f_shared) = true)
    {f_less : Addr} {od_less an_less : Option Addr} {sl_less : Array (Option Value)} {oc_less kV_less dc_less pm_less cd_less ct_less : Value}
    (a_less : PySem.W.nsIn K mainGlobals "less" = some (some (.ref f_less))) (l_less : K.lookup f_less = some ⟨oc_less, od_less, .func (PySem.W.fnOf "less" "less" (defArgs s_less) (defBody s_less) (defScope s_less) .none kV_less dc_less pm_less an_less cd_less ct_less), sl_less⟩) (c_less : PySem.W.codeIn K cd_less "less" = true) (k_less : PySem.W.keepIn K (.ref f_less) = true)
    {f_is_edit : Addr} {od_is_edit an_is_edit : Option Addr} {sl_is_edit : Array (Option Value)} {oc_is_edit kV_is_edit dc_is_edit pm_is_edit cd_is_edit ct_is_edit : Value}
    (a_is_edit : PySem.W.nsIn K mainGlobals "is_edit" = some (some (.ref f_is_edit))) (l_is_edit : K.lookup f_is_edit = some ⟨oc_is_edit, od_is_edit, .func (PySem.W.fnOf "is_edit" "is_edit" (defArgs s_is_edit) (defBody s_is_edit) (defScope s_is_edit) .none kV_is_edit dc_is_edit pm_is_edit an_is_edit cd_is_edit ct_is_edit), sl_is_edit⟩) (c_is_edit : PySem.W.codeIn K cd_is_edit "is_edit" = true) (k_is_edit : PySem.W.keepIn K (.ref f_is_edit) = true)
    {f_is_edits : Addr} {od_is_edits an_is_edits : Option Addr} {sl_is_edits : Array (Option Value)} {oc_is_edits kV_is_edits dc_is_edits pm_is_edits cd_is_edits ct_is_edits : Value}
    (a_is_edits : PySem.W.nsIn K mainGlobals "is_edits" = some (some (.ref f_is_edits))) (l_is_edits : K.lookup f_is_edits = some ⟨oc_is_edits, od_is_edits, .func (PySem.W.fnOf "is_edits" "is_edits" (defArgs s_is_edits) (defBody s_is_edits) (defScope s_is_edits) .none kV_is_edits dc_is_edits pm_is_edits an_is_edits cd_is_edits ct_is_edits), sl_is_edits⟩) (c_is_edits : PySem.W.codeIn K cd_is_edits "is_edits" = true) (k_is_edits : PySem.W.keepIn K (.ref f_is_edits) = true)
    {f_sure_edits : Addr} {od_sure_edits an_sure_edits : Option Addr} {sl_sure_edits : Array (Option Value)} {oc_sure_edits kV_sure_edits dc_sure_edits pm_sure_edits cd_sure_edits ct_sure_edits : Value}
    (a_sure_edits : PySem.W.nsIn K mainGlobals "sure_edits" = some (some (.ref f_sure_edits))) (l_sure_edits : K.lookup f_sure_edits = some ⟨oc_sure_edits, od_sure_edits, .func (PySem.W.fnOf "sure_edits" "sure_edits" (defArgs s_sure_edits) (defBody s_sure_edits) (defScope s_sure_edits) .none kV_sure_edits dc_sure_edits pm_sure_edits an_sure_edits cd_sure_edits ct_sure_edits), sl_sure_edits⟩) (c_sure_edits : PySem.W.codeIn K cd_sure_edits "sure_edits" = true) (k_sure_edits : PySem.W.keepIn K (.ref f_sure_edits) = true)
    {f_sure_moment : Addr} {od_sure_moment an_sure_moment : Option Addr} {sl_sure_moment : Array (Option Value)} {oc_sure_moment kV_sure_moment dc_sure_moment pm_sure_moment cd_sure_moment ct_sure_moment : Value}
    (a_sure_moment : PySem.W.nsIn K mainGlobals "sure_moment" = some (some (.ref f_sure_moment))) (l_sure_moment : K.lookup f_sure_moment = some ⟨oc_sure_moment, od_sure_moment, .func (PySem.W.fnOf "sure_moment" "sure_moment" (defArgs s_sure_moment) (defBody s_sure_moment) (defScope s_sure_moment) .none kV_sure_moment dc_sure_moment pm_sure_moment an_sure_moment cd_sure_moment ct_sure_moment), sl_sure_moment⟩) (c_sure_moment : PySem.W.codeIn K cd_sure_moment "sure_moment" = true) (k_sure_moment : PySem.W.keepIn K (.ref f_sure_moment) = true)
    {f_led_by : Addr} {od_led_by an_led_by : Option Addr} {sl_led_by : Array (Option Value)} {oc_led_by kV_led_by dc_led_by pm_led_by cd_led_by ct_led_by : Value}
    (a_led_by : PySem.W.nsIn K mainGlobals "led_by" = some (some (.ref f_led_by))) (l_led_by : K.lookup f_led_by = some ⟨oc_led_by, od_led_by, .func (PySem.W.fnOf "led_by" "led_by" (defArgs s_led_by) (defBody s_led_by) (defScope s_led_by) .none kV_led_by dc_led_by pm_led_by an_led_by cd_led_by ct_led_by), sl_led_by⟩) (c_led_by : PySem.W.codeIn K cd_led_by "led_by" = true) (k_led_by : PySem.W.keepIn K (.ref f_led_by) = true)
    {f_mapped : Addr} {od_mapped an_mapped : Option Addr} {sl_mapped : Array (Option Value)} {oc_mapped kV_mapped dc_mapped pm_mapped cd_mapped ct_mapped : Value}
    (a_mapped : PySem.W.nsIn K mainGlobals "mapped" = some (some (.ref f_mapped))) (l_mapped : K.lookup f_mapped = some ⟨oc_mapped, od_mapped, .func (PySem.W.fnOf "mapped" "mapped" (defArgs s_mapped) (defBody s_mapped) (defScope s_mapped) .none kV_mapped dc_mapped pm_mapped an_mapped cd_mapped ct_mapped), sl_mapped⟩) (c_mapped : PySem.W.codeIn K cd_mapped "mapped" = true) (k_mapped : PySem.W.keepIn K (.ref f_mapped) = true)
    {f_borders_of : Addr} {od_borders_of an_borders_of : Option Addr} {sl_borders_of : Array (Option Value)} {oc_borders_of kV_borders_of dc_borders_of pm_borders_of cd_borders_of ct_borders_of : Value}
    (a_borders_of : PySem.W.nsIn K mainGlobals "borders_of" = some (some (.ref f_borders_of))) (l_borders_of : K.lookup f_borders_of = some ⟨oc_borders_of, od_borders_of, .func (PySem.W.fnOf "borders_of" "borders_of" (defArgs s_borders_of) (defBody s_borders_of) (defScope s_borders_of) .none kV_borders_of dc_borders_of pm_borders_of an_borders_of cd_borders_of ct_borders_of), sl_borders_of⟩) (c_borders_of : PySem.W.codeIn K cd_borders_of "borders_of" = true) (k_borders_of : PySem.W.keepIn K (.ref f_borders_of) = true)
    {f_joined_borders : Addr} {od_joined_borders an_joined_borders : Option Addr} {sl_joined_borders : Array (Option Value)} {oc_joined_borders kV_joined_borders dc_joined_borders pm_joined_borders cd_joined_borders ct_joined_borders : Value}
    (a_joined_borders : PySem.W.nsIn K mainGlobals "joined_borders" = some (some (.ref f_joined_borders))) (l_joined_borders : K.lookup f_joined_borders = some ⟨oc_joined_borders, od_joined_borders, .func (PySem.W.fnOf "joined_borders" "joined_borders" (defArgs s_joined_borders) (defBody s_joined_borders) (defScope s_joined_borders) .none kV_joined_borders dc_joined_borders pm_joined_borders an_joined_borders cd_joined_borders ct_joined_borders), sl_joined_borders⟩) (c_joined_borders : PySem.W.codeIn K cd_joined_borders "joined_borders" = true) (k_joined_borders : PySem.W.keepIn K (.ref f_joined_borders) = true)
    {f_parted : Addr} {od_parted an_parted : Option Addr} {sl_parted : Array (Option Value)} {oc_parted kV_parted dc_parted pm_parted cd_parted ct_parted : Value}
    (a_parted : PySem.W.nsIn K mainGlobals "parted" = some (some (.ref f_parted))) (l_parted : K.lookup f_parted = some ⟨oc_parted, od_parted, .func (PySem.W.fnOf "parted" "parted" (defArgs s_parted) (defBody s_parted) (defScope s_parted) .none kV_parted dc_parted pm_parted an_parted cd_parted ct_parted), sl_parted⟩) (c_parted : PySem.W.codeIn K cd_parted "parted" = true) (k_parted : PySem.W.keepIn K (.ref f_parted) = true)
    {f__law_cell_at : Addr} {od__law_cell_at an__law_cell_at : Option Addr} {sl__law_cell_at : Array (Option Value)} {oc__law_cell_at kV__law_cell_at dc__law_cell_at pm__law_cell_at cd__law_cell_at ct__law_cell_at : Value}
    (a__law_cell_at : PySem.W.nsIn K mainGlobals "_law_cell_at" = some (some (.ref f__law_cell_at))) (l__law_cell_at : K.lookup f__law_cell_at = some ⟨oc__law_cell_at, od__law_cell_at, .func (PySem.W.fnOf "_law_cell_at" "_law_cell_at" (defArgs s__law_cell_at) (defBody s__law_cell_at) (defScope s__law_cell_at) .none kV__law_cell_at dc__law_cell_at pm__law_cell_at an__law_cell_at cd__law_cell_at ct__law_cell_at), sl__law_cell_at⟩) (c__law_cell_at : PySem.W.codeIn K cd__law_cell_at "_law_cell_at" = true) (k__law_cell_at : PySem.W.keepIn K (.ref f__law_cell_at) = true)
    {f__law_digit : Addr} {od__law_digit an__law_digit : Option Addr} {sl__law_digit : Array (Option Value)} {oc__law_digit kV__law_digit dc__law_digit pm__law_digit cd__law_digit ct__law_digit : Value}
    (a__law_digit : PySem.W.nsIn K mainGlobals "_law_digit" = some (some (.ref f__law_digit))) (l__law_digit : K.lookup f__law_digit = some ⟨oc__law_digit, od__law_digit, .func (PySem.W.fnOf "_law_digit" "_law_digit" (defArgs s__law_digit) (defBody s__law_digit) (defScope s__law_digit) .none kV__law_digit dc__law_digit pm__law_digit an__law_digit cd__law_digit ct__law_digit), sl__law_digit⟩) (c__law_digit : PySem.W.codeIn K cd__law_digit "_law_digit" = true) (k__law_digit : PySem.W.keepIn K (.ref f__law_digit) = true)
    {f__law_shared : Addr} {od__law_shared an__law_shared : Option Addr} {sl__law_shared : Array (Option Value)} {oc__law_shared kV__law_shared dc__law_shared pm__law_shared cd__law_shared ct__law_shared : Value}
    (a__law_shared : PySem.W.nsIn K mainGlobals "_law_shared" = some (some (.ref f__law_shared))) (l__law_shared : K.lookup f__law_shared = some ⟨oc__law_shared, od__law_shared, .func (PySem.W.fnOf "_law_shared" "_law_shared" (defArgs s__law_shared) (defBody s__law_shared) (defScope s__law_shared) .none kV__law_shared dc__law_shared pm__law_shared an__law_shared cd__law_shared ct__law_shared), sl__law_shared⟩) (c__law_shared : PySem.W.codeIn K cd__law_shared "_law_shared" = true) (k__law_shared : PySem.W.keepIn K (.ref f__law_shared) = true)
    {f__law_lowest : Addr} {od__law_lowest an__law_lowest : Option Addr} {sl__law_lowest : Array (Option Value)} {oc__law_lowest kV__law_lowest dc__law_lowest pm__law_lowest cd__law_lowest ct__law_lowest : Value}
    (a__law_lowest : PySem.W.nsIn K mainGlobals "_law_lowest" = some (some (.ref f__law_lowest))) (l__law_lowest : K.lookup f__law_lowest = some ⟨oc__law_lowest, od__law_lowest, .func (PySem.W.fnOf "_law_lowest" "_law_lowest" (defArgs s__law_lowest) (defBody s__law_lowest) (defScope s__law_lowest) .none kV__law_lowest dc__law_lowest pm__law_lowest an__law_lowest cd__law_lowest ct__law_lowest), sl__law_lowest⟩) (c__law_lowest : PySem.W.codeIn K cd__law_lowest "_law_lowest" = true) (k__law_lowest : PySem.W.keepIn K (.ref f__law_lowest) = true)
    {f__law_plus : Addr} {od__law_plus an__law_plus : Option Addr} {sl__law_plus : Array (Option Value)} {oc__law_plus kV__law_plus dc__law_plus pm__law_plus cd__law_plus ct__law_plus : Value}
    (a__law_plus : PySem.W.nsIn K mainGlobals "_law_plus" = some (some (.ref f__law_plus))) (l__law_plus : K.lookup f__law_plus = some ⟨oc__law_plus, od__law_plus, .func (PySem.W.fnOf "_law_plus" "_law_plus" (defArgs s__law_plus) (defBody s__law_plus) (defScope s__law_plus) .none kV__law_plus dc__law_plus pm__law_plus an__law_plus cd__law_plus ct__law_plus), sl__law_plus⟩) (c__law_plus : PySem.W.codeIn K cd__law_plus "_law_plus" = true) (k__law_plus : PySem.W.keepIn K (.ref f__law_plus) = true)
    {f__law_minus : Addr} {od__law_minus an__law_minus : Option Addr} {sl__law_minus : Array (Option Value)} {oc__law_minus kV__law_minus dc__law_minus pm__law_minus cd__law_minus ct__law_minus : Value}
    (a__law_minus : PySem.W.nsIn K mainGlobals "_law_minus" = some (some (.ref f__law_minus))) (l__law_minus : K.lookup f__law_minus = some ⟨oc__law_minus, od__law_minus, .func (PySem.W.fnOf "_law_minus" "_law_minus" (defArgs s__law_minus) (defBody s__law_minus) (defScope s__law_minus) .none kV__law_minus dc__law_minus pm__law_minus an__law_minus cd__law_minus ct__law_minus), sl__law_minus⟩) (c__law_minus : PySem.W.codeIn K cd__law_minus "_law_minus" = true) (k__law_minus : PySem.W.keepIn K (.ref f__law_minus) = true)
    {f__law_times : Addr} {od__law_times an__law_times : Option Addr} {sl__law_times : Array (Option Value)} {oc__law_times kV__law_times dc__law_times pm__law_times cd__law_times ct__law_times : Value}
    (a__law_times : PySem.W.nsIn K mainGlobals "_law_times" = some (some (.ref f__law_times))) (l__law_times : K.lookup f__law_times = some ⟨oc__law_times, od__law_times, .func (PySem.W.fnOf "_law_times" "_law_times" (defArgs s__law_times) (defBody s__law_times) (defScope s__law_times) .none kV__law_times dc__law_times pm__law_times an__law_times cd__law_times ct__law_times), sl__law_times⟩) (c__law_times : PySem.W.codeIn K cd__law_times "_law_times" = true) (k__law_times : PySem.W.keepIn K (.ref f__law_times) = true)
    {f__law_less : Addr} {od__law_less an__law_less : Option Addr} {sl__law_less : Array (Option Value)} {oc__law_less kV__law_less dc__law_less pm__law_less cd__law_less ct__law_less : Value}
    (a__law_less : PySem.W.nsIn K mainGlobals "_law_less" = some (some (.ref f__law_less))) (l__law_less : K.lookup f__law_less = some ⟨oc__law_less, od__law_less, .func (PySem.W.fnOf "_law_less" "_law_less" (defArgs s__law_less) (defBody s__law_less) (defScope s__law_less) .none kV__law_less dc__law_less pm__law_less an__law_less cd__law_less ct__law_less), sl__law_less⟩) (c__law_less : PySem.W.codeIn K cd__law_less "_law_less" = true) (k__law_less : PySem.W.keepIn K (.ref f__law_less) = true)
    {f__law_amount : Addr} {od__law_amount an__law_amount : Option Addr} {sl__law_amount : Array (Option Value)} {oc__law_amount kV__law_amount dc__law_amount pm__law_amount cd__law_amount ct__law_amount : Value}
    (a__law_amount : PySem.W.nsIn K mainGlobals "_law_amount" = some (some (.ref f__law_amount))) (l__law_amount : K.lookup f__law_amount = some ⟨oc__law_amount, od__law_amount, .func (PySem.W.fnOf "_law_amount" "_law_amount" (defArgs s__law_amount) (defBody s__law_amount) (defScope s__law_amount) .none kV__law_amount dc__law_amount pm__law_amount an__law_amount cd__law_amount ct__law_amount), sl__law_amount⟩) (c__law_amount : PySem.W.codeIn K cd__law_amount "_law_amount" = true) (k__law_amount : PySem.W.keepIn K (.ref f__law_amount) = true)
    {f__law_edit : Addr} {od__law_edit an__law_edit : Option Addr} {sl__law_edit : Array (Option Value)} {oc__law_edit kV__law_edit dc__law_edit pm__law_edit cd__law_edit ct__law_edit : Value}
    (a__law_edit : PySem.W.nsIn K mainGlobals "_law_edit" = some (some (.ref f__law_edit))) (l__law_edit : K.lookup f__law_edit = some ⟨oc__law_edit, od__law_edit, .func (PySem.W.fnOf "_law_edit" "_law_edit" (defArgs s__law_edit) (defBody s__law_edit) (defScope s__law_edit) .none kV__law_edit dc__law_edit pm__law_edit an__law_edit cd__law_edit ct__law_edit), sl__law_edit⟩) (c__law_edit : PySem.W.codeIn K cd__law_edit "_law_edit" = true) (k__law_edit : PySem.W.keepIn K (.ref f__law_edit) = true)
    {f__law_edits : Addr} {od__law_edits an__law_edits : Option Addr} {sl__law_edits : Array (Option Value)} {oc__law_edits kV__law_edits dc__law_edits pm__law_edits cd__law_edits ct__law_edits : Value}
    (a__law_edits : PySem.W.nsIn K mainGlobals "_law_edits" = some (some (.ref f__law_edits))) (l__law_edits : K.lookup f__law_edits = some ⟨oc__law_edits, od__law_edits, .func (PySem.W.fnOf "_law_edits" "_law_edits" (defArgs s__law_edits) (defBody s__law_edits) (defScope s__law_edits) .none kV__law_edits dc__law_edits pm__law_edits an__law_edits cd__law_edits ct__law_edits), sl__law_edits⟩) (c__law_edits : PySem.W.codeIn K cd__law_edits "_law_edits" = true) (k__law_edits : PySem.W.keepIn K (.ref f__law_edits) = true)
    {f__law_led : Addr} {od__law_led an__law_led : Option Addr} {sl__law_led : Array (Option Value)} {oc__law_led kV__law_led dc__law_led pm__law_led cd__law_led ct__law_led : Value}
    (a__law_led : PySem.W.nsIn K mainGlobals "_law_led" = some (some (.ref f__law_led))) (l__law_led : K.lookup f__law_led = some ⟨oc__law_led, od__law_led, .func (PySem.W.fnOf "_law_led" "_law_led" (defArgs s__law_led) (defBody s__law_led) (defScope s__law_led) .none kV__law_led dc__law_led pm__law_led an__law_led cd__law_led ct__law_led), sl__law_led⟩) (c__law_led : PySem.W.codeIn K cd__law_led "_law_led" = true) (k__law_led : PySem.W.keepIn K (.ref f__law_led) = true)
    {f__law_changed : Addr} {od__law_changed an__law_changed : Option Addr} {sl__law_changed : Array (Option Value)} {oc__law_changed kV__law_changed dc__law_changed pm__law_changed cd__law_changed ct__law_changed : Value}
    (a__law_changed : PySem.W.nsIn K mainGlobals "_law_changed" = some (some (.ref f__law_changed))) (l__law_changed : K.lookup f__law_changed = some ⟨oc__law_changed, od__law_changed, .func (PySem.W.fnOf "_law_changed" "_law_changed" (defArgs s__law_changed) (defBody s__law_changed) (defScope s__law_changed) .none kV__law_changed dc__law_changed pm__law_changed an__law_changed cd__law_changed ct__law_changed), sl__law_changed⟩) (c__law_changed : PySem.W.codeIn K cd__law_changed "_law_changed" = true) (k__law_changed : PySem.W.keepIn K (.ref f__law_changed) = true)
    {f__law_borders : Addr} {od__law_borders an__law_borders : Option Addr} {sl__law_borders : Array (Option Value)} {oc__law_borders kV__law_borders dc__law_borders pm__law_borders cd__law_borders ct__law_borders : Value}
    (a__law_borders : PySem.W.nsIn K mainGlobals "_law_borders" = some (some (.ref f__law_borders))) (l__law_borders : K.lookup f__law_borders = some ⟨oc__law_borders, od__law_borders, .func (PySem.W.fnOf "_law_borders" "_law_borders" (defArgs s__law_borders) (defBody s__law_borders) (defScope s__law_borders) .none kV__law_borders dc__law_borders pm__law_borders an__law_borders cd__law_borders ct__law_borders), sl__law_borders⟩) (c__law_borders : PySem.W.codeIn K cd__law_borders "_law_borders" = true) (k__law_borders : PySem.W.keepIn K (.ref f__law_borders) = true)
    {f__law_ranked : Addr} {od__law_ranked an__law_ranked : Option Addr} {sl__law_ranked : Array (Option Value)} {oc__law_ranked kV__law_ranked dc__law_ranked pm__law_ranked cd__law_ranked ct__law_ranked : Value}
    (a__law_ranked : PySem.W.nsIn K mainGlobals "_law_ranked" = some (some (.ref f__law_ranked))) (l__law_ranked : K.lookup f__law_ranked = some ⟨oc__law_ranked, od__law_ranked, .func (PySem.W.fnOf "_law_ranked" "_law_ranked" (defArgs s__law_ranked) (defBody s__law_ranked) (defScope s__law_ranked) .none kV__law_ranked dc__law_ranked pm__law_ranked an__law_ranked cd__law_ranked ct__law_ranked), sl__law_ranked⟩) (c__law_ranked : PySem.W.codeIn K cd__law_ranked "_law_ranked" = true) (k__law_ranked : PySem.W.keepIn K (.ref f__law_ranked) = true)
    {f__law_alike : Addr} {od__law_alike an__law_alike : Option Addr} {sl__law_alike : Array (Option Value)} {oc__law_alike kV__law_alike dc__law_alike pm__law_alike cd__law_alike ct__law_alike : Value}
    (a__law_alike : PySem.W.nsIn K mainGlobals "_law_alike" = some (some (.ref f__law_alike))) (l__law_alike : K.lookup f__law_alike = some ⟨oc__law_alike, od__law_alike, .func (PySem.W.fnOf "_law_alike" "_law_alike" (defArgs s__law_alike) (defBody s__law_alike) (defScope s__law_alike) .none kV__law_alike dc__law_alike pm__law_alike an__law_alike cd__law_alike ct__law_alike), sl__law_alike⟩) (c__law_alike : PySem.W.codeIn K cd__law_alike "_law_alike" = true) (k__law_alike : PySem.W.keepIn K (.ref f__law_alike) = true)
    {f__law_right : Addr} {od__law_right an__law_right : Option Addr} {sl__law_right : Array (Option Value)} {oc__law_right kV__law_right dc__law_right pm__law_right cd__law_right ct__law_right : Value}
    (a__law_right : PySem.W.nsIn K mainGlobals "_law_right" = some (some (.ref f__law_right))) (l__law_right : K.lookup f__law_right = some ⟨oc__law_right, od__law_right, .func (PySem.W.fnOf "_law_right" "_law_right" (defArgs s__law_right) (defBody s__law_right) (defScope s__law_right) .none kV__law_right dc__law_right pm__law_right an__law_right cd__law_right ct__law_right), sl__law_right⟩) (c__law_right : PySem.W.codeIn K cd__law_right "_law_right" = true) (k__law_right : PySem.W.keepIn K (.ref f__law_right) = true)
    {f_law : Addr} {od_law an_law : Option Addr} {sl_law : Array (Option Value)} {oc_law kV_law dc_law pm_law cd_law ct_law : Value}
    (a_law : PySem.W.nsIn K mainGlobals "law" = some (some (.ref f_law))) (l_law : K.lookup f_law = some ⟨oc_law, od_law, .func (PySem.W.fnOf "law" "law" (defArgs s_law) (defBody s_law) (defScope s_law) .none kV_law dc_law pm_law an_law cd_law ct_law), sl_law⟩) (c_law : PySem.W.codeIn K cd_law "law" = true) (k_law : PySem.W.keepIn K (.ref f_law) = true)
    {C_NoFraction : Addr}
    (xca_NoFraction : PySem.W.nsIn K mainGlobals "NoFraction" = some (some (.ref C_NoFraction)))
    (xchg_NoFraction : PySem.W.findIn K (.ref C_NoFraction) "__getattribute__" = some (some (.builtin "BaseException.__getattribute__")))
    (xchk_NoFraction : PySem.W.findIn K (.ref C_NoFraction) "__getattr__" = some none)
    (xchs_NoFraction : PySem.W.subIn K (.ref C_NoFraction) (.type "BaseException") = some true)
    (xchd_NoFraction : PySem.W.hasDictIn K C_NoFraction = true)
    (xcha_NoFraction : PySem.W.findIn K (.ref C_NoFraction) "__class__" = some (some (.builtin "object.__class__")))
    (xchm_NoFraction : PySem.W.mroIn K C_NoFraction (.type "object") = some true)
    (xcty_NoFraction : PySem.W.typeIn K (.ref C_NoFraction) = some (.type "type"))
    (xckp_NoFraction : PySem.W.keepIn K (.ref C_NoFraction) = true)
    (xcve_NoFraction : PySem.W.subIn K (.ref C_NoFraction) (.type "ValueError") = some true)
    (xcis_NoFraction : PySem.W.isClsIn K C_NoFraction = true)
    (xcself_NoFraction : PySem.W.subIn K (.ref C_NoFraction) (.ref C_NoFraction) = some true)
    (xcex_NoFraction : PySem.W.excIn K C_NoFraction [.type "ValueError", .type "Exception", .type "BaseException", .type "object"] "ValueError.__new__" = true)
    {C_NoEdits : Addr}
    (xca_NoEdits : PySem.W.nsIn K mainGlobals "NoEdits" = some (some (.ref C_NoEdits)))
    (xchg_NoEdits : PySem.W.findIn K (.ref C_NoEdits) "__getattribute__" = some (some (.builtin "BaseException.__getattribute__")))
    (xchk_NoEdits : PySem.W.findIn K (.ref C_NoEdits) "__getattr__" = some none)
    (xchs_NoEdits : PySem.W.subIn K (.ref C_NoEdits) (.type "BaseException") = some true)
    (xchd_NoEdits : PySem.W.hasDictIn K C_NoEdits = true)
    (xcha_NoEdits : PySem.W.findIn K (.ref C_NoEdits) "__class__" = some (some (.builtin "object.__class__")))
    (xchm_NoEdits : PySem.W.mroIn K C_NoEdits (.type "object") = some true)
    (xcty_NoEdits : PySem.W.typeIn K (.ref C_NoEdits) = some (.type "type"))
    (xckp_NoEdits : PySem.W.keepIn K (.ref C_NoEdits) = true)
    (xcve_NoEdits : PySem.W.subIn K (.ref C_NoEdits) (.type "ValueError") = some true)
    (xcis_NoEdits : PySem.W.isClsIn K C_NoEdits = true)
    (xcself_NoEdits : PySem.W.subIn K (.ref C_NoEdits) (.ref C_NoEdits) = some true)
    (xcex_NoEdits : PySem.W.excIn K C_NoEdits [.type "ValueError", .type "Exception", .type "BaseException", .type "object"] "ValueError.__new__" = true)
    {C_NoMoment : Addr}
    (xca_NoMoment : PySem.W.nsIn K mainGlobals "NoMoment" = some (some (.ref C_NoMoment)))
    (xchg_NoMoment : PySem.W.findIn K (.ref C_NoMoment) "__getattribute__" = some (some (.builtin "BaseException.__getattribute__")))
    (xchk_NoMoment : PySem.W.findIn K (.ref C_NoMoment) "__getattr__" = some none)
    (xchs_NoMoment : PySem.W.subIn K (.ref C_NoMoment) (.type "BaseException") = some true)
    (xchd_NoMoment : PySem.W.hasDictIn K C_NoMoment = true)
    (xcha_NoMoment : PySem.W.findIn K (.ref C_NoMoment) "__class__" = some (some (.builtin "object.__class__")))
    (xchm_NoMoment : PySem.W.mroIn K C_NoMoment (.type "object") = some true)
    (xcty_NoMoment : PySem.W.typeIn K (.ref C_NoMoment) = some (.type "type"))
    (xckp_NoMoment : PySem.W.keepIn K (.ref C_NoMoment) = true)
    (xcve_NoMoment : PySem.W.subIn K (.ref C_NoMoment) (.type "ValueError") = some true)
    (xcis_NoMoment : PySem.W.isClsIn K C_NoMoment = true)
    (xcself_NoMoment : PySem.W.subIn K (.ref C_NoMoment) (.ref C_NoMoment) = some true)
    (xcex_NoMoment : PySem.W.excIn K C_NoMoment [.type "ValueError", .type "Exception", .type "BaseException", .type "object"] "ValueError.__new__" = true)
    {C_NOUGHT : Addr} {dC_NOUGHT : Option Addr} {nC_NOUGHT : Nat} {sC_NOUGHT : Array (Option Value)} {tk_NOUGHT_0 tk_NOUGHT_1 : Tok}
    (cg_NOUGHT : PySem.W.nsIn K mainGlobals "NOUGHT" = some (some (.ref C_NOUGHT))) (cl_NOUGHT : K.lookup C_NOUGHT = some ⟨.type "tuple", dC_NOUGHT, .seq #[.int 0 tk_NOUGHT_0, .int 1 tk_NOUGHT_1] nC_NOUGHT, sC_NOUGHT⟩)
    (xhn : PySem.W.specialIn K (.builtin "object.__class__") "__get__" = some (some (.builtin "getset_descriptor.__get__"))) (xht : PySem.W.takesIn K (.builtin "object.__class__") = some true)
    (z_abs : PySem.W.nsIn K mainGlobals "abs" = some none)
    (z_isinstance : PySem.W.nsIn K mainGlobals "isinstance" = some none)
    (z_int : PySem.W.nsIn K mainGlobals "int" = some none)
    (z_bool : PySem.W.nsIn K mainGlobals "bool" = some none)
    (z_tuple : PySem.W.nsIn K mainGlobals "tuple" = some none)
    (z_len : PySem.W.nsIn K mainGlobals "len" = some none)
    (z_list : PySem.W.nsIn K mainGlobals "list" = some none)
    (z_all : PySem.W.nsIn K mainGlobals "all" = some none)
    (z_enumerate : PySem.W.nsIn K mainGlobals "enumerate" = some none)
    (z_range : PySem.W.nsIn K mainGlobals "range" = some none)
    (z_max : PySem.W.nsIn K mainGlobals "max" = some none)
    : ∃ fd : FuncData, (∀ (s : Shared) (v : Value), BindsTo s fd ⟨[v], []⟩ [("_law_script", v)]) ∧ ∀ base : Heap, K.In base → base.Ns mainGlobals mg → FnOk l.prog w K mg base CX0 10 fa fd ["_law_script"] (spTop K) := by
  have e := hfa.symm.trans (PySem.W.mg_of X G a_law)
  cases e
  have F_divisor := fun_mk (st := s_divisor) l_divisor c_divisor k_divisor
  have b_divisor := F_divisor.binds (ps := ["one", "other"]) fun _ _ _ _ _ _ us hl => match us, hl with | [_, _], _ => rfl
  have g_divisor := PySem.W.mg_of X G a_divisor
  have F_is_number := fun_mk (st := s_is_number) l_is_number c_is_number k_is_number
  have b_is_number := F_is_number.binds (ps := ["thing"]) fun _ _ _ _ _ _ us hl => match us, hl with | [_], _ => rfl
  have g_is_number := PySem.W.mg_of X G a_is_number
  have F_fraction := funV_mk (st := s_fraction) (dv := [.int 1 tk_fraction_bottom]) l_fraction c_fraction k_fraction lT_fraction
  have b_fraction := (F_fraction.binds (ps := ["top", "bottom"]) 2 1 rfl (fun _ _ _ _ _ _ _ us hl => match us, hl with | [_, _], _ => ⟨_, rfl, rfl⟩) : L2.Binds K _ ["top", "bottom"] [])
  have g_fraction := PySem.W.mg_of X G a_fraction
  have F_is_fraction := fun_mk (st := s_is_fraction) l_is_fraction c_is_fraction k_is_fraction
  have b_is_fraction := F_is_fraction.binds (ps := ["thing"]) fun _ _ _ _ _ _ us hl => match us, hl with | [_], _ => rfl
  have g_is_fraction := PySem.W.mg_of X G a_is_fraction
  have F_is_moment := fun_mk (st := s_is_moment) l_is_moment c_is_moment k_is_moment
  have b_is_moment := F_is_moment.binds (ps := ["thing"]) fun _ _ _ _ _ _ us hl => match us, hl with | [_], _ => rfl
  have g_is_moment := PySem.W.mg_of X G a_is_moment
  have F_plus := fun_mk (st := s_plus) l_plus c_plus k_plus
  have b_plus := F_plus.binds (ps := ["one", "other"]) fun _ _ _ _ _ _ us hl => match us, hl with | [_, _], _ => rfl
  have g_plus := PySem.W.mg_of X G a_plus
  have F_minus := fun_mk (st := s_minus) l_minus c_minus k_minus
  have b_minus := F_minus.binds (ps := ["one", "other"]) fun _ _ _ _ _ _ us hl => match us, hl with | [_, _], _ => rfl
  have g_minus := PySem.W.mg_of X G a_minus
  have F_times := fun_mk (st := s_times) l_times c_times k_times
  have b_times := F_times.binds (ps := ["one", "other"]) fun _ _ _ _ _ _ us hl => match us, hl with | [_, _], _ => rfl
  have g_times := PySem.W.mg_of X G a_times
  have F_shared := fun_mk (st := s_shared) l_shared c_shared k_shared
  have b_shared := F_shared.binds (ps := ["one", "other"]) fun _ _ _ _ _ _ us hl => match us, hl with | [_, _], _ => rfl
  have g_shared := PySem.W.mg_of X G a_shared
  have F_less := fun_mk (st := s_less) l_less c_less k_less
  have b_less := F_less.binds (ps := ["one", "other"]) fun _ _ _ _ _ _ us hl => match us, hl with | [_, _], _ => rfl
  have g_less := PySem.W.mg_of X G a_less
  have F_is_edit := fun_mk (st := s_is_edit) l_is_edit c_is_edit k_is_edit
  have b_is_edit := F_is_edit.binds (ps := ["thing"]) fun _ _ _ _ _ _ us hl => match us, hl with | [_], _ => rfl
  have g_is_edit := PySem.W.mg_of X G a_is_edit
  have F_is_edits := fun_mk (st := s_is_edits) l_is_edits c_is_edits k_is_edits
  have b_is_edits := F_is_edits.binds (ps := ["thing"]) fun _ _ _ _ _ _ us hl => match us, hl with | [_], _ => rfl
  have g_is_edits := PySem.W.mg_of X G a_is_edits
  have F_sure_edits := fun_mk (st := s_sure_edits) l_sure_edits c_sure_edits k_sure_edits
  have b_sure_edits := F_sure_edits.binds (ps := ["thing"]) fun _ _ _ _ _ _ us hl => match us, hl with | [_], _ => rfl
  have g_sure_edits := PySem.W.mg_of X G a_sure_edits
  have F_sure_moment := fun_mk (st := s_sure_moment) l_sure_moment c_sure_moment k_sure_moment
  have b_sure_moment := F_sure_moment.binds (ps := ["thing"]) fun _ _ _ _ _ _ us hl => match us, hl with | [_], _ => rfl
  have g_sure_moment := PySem.W.mg_of X G a_sure_moment
  have F_led_by := fun_mk (st := s_led_by) l_led_by c_led_by k_led_by
  have b_led_by := F_led_by.binds (ps := ["edit", "later"]) fun _ _ _ _ _ _ us hl => match us, hl with | [_, _], _ => rfl
  have g_led_by := PySem.W.mg_of X G a_led_by
  have F_mapped := fun_mk (st := s_mapped) l_mapped c_mapped k_mapped
  have b_mapped := F_mapped.binds (ps := ["edits", "t"]) fun _ _ _ _ _ _ us hl => match us, hl with | [_, _], _ => rfl
  have g_mapped := PySem.W.mg_of X G a_mapped
  have F_borders_of := fun_mk (st := s_borders_of) l_borders_of c_borders_of k_borders_of
  have b_borders_of := F_borders_of.binds (ps := ["edits"]) fun _ _ _ _ _ _ us hl => match us, hl with | [_], _ => rfl
  have g_borders_of := PySem.W.mg_of X G a_borders_of
  have F_joined_borders := fun_mk (st := s_joined_borders) l_joined_borders c_joined_borders k_joined_borders
  have b_joined_borders := F_joined_borders.binds (ps := ["one", "other"]) fun _ _ _ _ _ _ us hl => match us, hl with | [_, _], _ => rfl
  have g_joined_borders := PySem.W.mg_of X G a_joined_borders
  have F_parted := fun_mk (st := s_parted) l_parted c_parted k_parted
  have b_parted := F_parted.binds (ps := ["one", "other"]) fun _ _ _ _ _ _ us hl => match us, hl with | [_, _], _ => rfl
  have g_parted := PySem.W.mg_of X G a_parted
  have F__law_cell_at := fun_mk (st := s__law_cell_at) l__law_cell_at c__law_cell_at k__law_cell_at
  have b__law_cell_at := F__law_cell_at.binds (ps := ["_law_script", "_law_k"]) fun _ _ _ _ _ _ us hl => match us, hl with | [_, _], _ => rfl
  have g__law_cell_at := PySem.W.mg_of X G a__law_cell_at
  have F__law_digit := fun_mk (st := s__law_digit) l__law_digit c__law_digit k__law_digit
  have b__law_digit := F__law_digit.binds (ps := ["_law_state", "_law_base"]) fun _ _ _ _ _ _ us hl => match us, hl with | [_, _], _ => rfl
  have g__law_digit := PySem.W.mg_of X G a__law_digit
  have F__law_shared := fun_mk (st := s__law_shared) l__law_shared c__law_shared k__law_shared
  have b__law_shared := F__law_shared.binds (ps := ["_law_left", "_law_right_here"]) fun _ _ _ _ _ _ us hl => match us, hl with | [_, _], _ => rfl
  have g__law_shared := PySem.W.mg_of X G a__law_shared
  have F__law_lowest := fun_mk (st := s__law_lowest) l__law_lowest c__law_lowest k__law_lowest
  have b__law_lowest := F__law_lowest.binds (ps := ["_law_top", "_law_bottom"]) fun _ _ _ _ _ _ us hl => match us, hl with | [_, _], _ => rfl
  have g__law_lowest := PySem.W.mg_of X G a__law_lowest
  have F__law_plus := fun_mk (st := s__law_plus) l__law_plus c__law_plus k__law_plus
  have b__law_plus := F__law_plus.binds (ps := ["_law_left", "_law_right_here"]) fun _ _ _ _ _ _ us hl => match us, hl with | [_, _], _ => rfl
  have g__law_plus := PySem.W.mg_of X G a__law_plus
  have F__law_minus := fun_mk (st := s__law_minus) l__law_minus c__law_minus k__law_minus
  have b__law_minus := F__law_minus.binds (ps := ["_law_left", "_law_right_here"]) fun _ _ _ _ _ _ us hl => match us, hl with | [_, _], _ => rfl
  have g__law_minus := PySem.W.mg_of X G a__law_minus
  have F__law_times := fun_mk (st := s__law_times) l__law_times c__law_times k__law_times
  have b__law_times := F__law_times.binds (ps := ["_law_left", "_law_right_here"]) fun _ _ _ _ _ _ us hl => match us, hl with | [_, _], _ => rfl
  have g__law_times := PySem.W.mg_of X G a__law_times
  have F__law_less := fun_mk (st := s__law_less) l__law_less c__law_less k__law_less
  have b__law_less := F__law_less.binds (ps := ["_law_left", "_law_right_here"]) fun _ _ _ _ _ _ us hl => match us, hl with | [_, _], _ => rfl
  have g__law_less := PySem.W.mg_of X G a__law_less
  have F__law_amount := fun_mk (st := s__law_amount) l__law_amount c__law_amount k__law_amount
  have b__law_amount := F__law_amount.binds (ps := ["_law_state"]) fun _ _ _ _ _ _ us hl => match us, hl with | [_], _ => rfl
  have g__law_amount := PySem.W.mg_of X G a__law_amount
  have F__law_edit := fun_mk (st := s__law_edit) l__law_edit c__law_edit k__law_edit
  have b__law_edit := F__law_edit.binds (ps := ["_law_state", "_law_ahead"]) fun _ _ _ _ _ _ us hl => match us, hl with | [_, _], _ => rfl
  have g__law_edit := PySem.W.mg_of X G a__law_edit
  have F__law_edits := fun_mk (st := s__law_edits) l__law_edits c__law_edits k__law_edits
  have b__law_edits := F__law_edits.binds (ps := ["_law_state", "_law_few"]) fun _ _ _ _ _ _ us hl => match us, hl with | [_, _], _ => rfl
  have g__law_edits := PySem.W.mg_of X G a__law_edits
  have F__law_led := fun_mk (st := s__law_led) l__law_led c__law_led k__law_led
  have b__law_led := F__law_led.binds (ps := ["_law_edits_here", "_law_t"]) fun _ _ _ _ _ _ us hl => match us, hl with | [_, _], _ => rfl
  have g__law_led := PySem.W.mg_of X G a__law_led
  have F__law_changed := fun_mk (st := s__law_changed) l__law_changed c__law_changed k__law_changed
  have b__law_changed := F__law_changed.binds (ps := ["_law_state", "_law_edits_here"]) fun _ _ _ _ _ _ us hl => match us, hl with | [_, _], _ => rfl
  have g__law_changed := PySem.W.mg_of X G a__law_changed
  have F__law_borders := fun_mk (st := s__law_borders) l__law_borders c__law_borders k__law_borders
  have b__law_borders := F__law_borders.binds (ps := ["_law_edits_here"]) fun _ _ _ _ _ _ us hl => match us, hl with | [_], _ => rfl
  have g__law_borders := PySem.W.mg_of X G a__law_borders
  have F__law_ranked := fun_mk (st := s__law_ranked) l__law_ranked c__law_ranked k__law_ranked
  have b__law_ranked := F__law_ranked.binds (ps := ["_law_found", "_law_moment"]) fun _ _ _ _ _ _ us hl => match us, hl with | [_, _], _ => rfl
  have g__law_ranked := PySem.W.mg_of X G a__law_ranked
  have F__law_alike := fun_mk (st := s__law_alike) l__law_alike c__law_alike k__law_alike
  have b__law_alike := F__law_alike.binds (ps := ["_law_left", "_law_right_here"]) fun _ _ _ _ _ _ us hl => match us, hl with | [_, _], _ => rfl
  have g__law_alike := PySem.W.mg_of X G a__law_alike
  have F__law_right := fun_mk (st := s__law_right) l__law_right c__law_right k__law_right
  have b__law_right := F__law_right.binds (ps := ["_law_left", "_law_right_here"]) fun _ _ _ _ _ _ us hl => match us, hl with | [_, _], _ => rfl
  have g__law_right := PySem.W.mg_of X G a__law_right
  have F_law := fun_mk (st := s_law) l_law c_law k_law
  have b_law := F_law.binds (ps := ["_law_script"]) fun _ _ _ _ _ _ us hl => match us, hl with | [_], _ => rfl
  have g_law := PySem.W.mg_of X G a_law
  have T_NoFraction : ExcR K mg "NoFraction" C_NoFraction := ⟨⟨PySem.W.mg_of X G xca_NoFraction, ⟨xchg_NoFraction, xchk_NoFraction, xchs_NoFraction, xchd_NoFraction, xcha_NoFraction, xhn, xht, xchm_NoFraction⟩, xcty_NoFraction, xckp_NoFraction, xcve_NoFraction, xcis_NoFraction, xcself_NoFraction⟩, xcex_NoFraction⟩
  have T_NoEdits : ExcR K mg "NoEdits" C_NoEdits := ⟨⟨PySem.W.mg_of X G xca_NoEdits, ⟨xchg_NoEdits, xchk_NoEdits, xchs_NoEdits, xchd_NoEdits, xcha_NoEdits, xhn, xht, xchm_NoEdits⟩, xcty_NoEdits, xckp_NoEdits, xcve_NoEdits, xcis_NoEdits, xcself_NoEdits⟩, xcex_NoEdits⟩
  have T_NoMoment : ExcR K mg "NoMoment" C_NoMoment := ⟨⟨PySem.W.mg_of X G xca_NoMoment, ⟨xchg_NoMoment, xchk_NoMoment, xchs_NoMoment, xchd_NoMoment, xcha_NoMoment, xhn, xht, xchm_NoMoment⟩, xcty_NoMoment, xckp_NoMoment, xcve_NoMoment, xcis_NoMoment, xcself_NoMoment⟩, xcex_NoMoment⟩
  have c_NOUGHT : CT K mg "NOUGHT" C_NOUGHT (⟨0, 1⟩ : (Tp2 Int Int)) := ⟨PySem.W.mg_of X G cg_NOUGHT, fun B => .tup (Or.inr ⟨_, _, _, cl_NOUGHT, rfl, rfl, by show 2 ≤ sizeLine; decide, (.cons (show L2.RelV (.int 0) (.int 0 tk_NOUGHT_0) from ⟨_, rfl⟩) (.cons (show L2.RelV (.int 1) (.int 1 tk_NOUGHT_1) from ⟨_, rfl⟩) .nil))⟩) (.cons (Rep.int _) (.cons (Rep.int _) .nil))⟩
  have bI_abs := PySem.W.mg_none_of X G z_abs
  have bI_isinstance := PySem.W.mg_none_of X G z_isinstance
  have bI_int := PySem.W.mg_none_of X G z_int
  have bI_bool := PySem.W.mg_none_of X G z_bool
  have bI_tuple := PySem.W.mg_none_of X G z_tuple
  have bI_len := PySem.W.mg_none_of X G z_len
  have bI_list := PySem.W.mg_none_of X G z_list
  have bI_all := PySem.W.mg_none_of X G z_all
  have bI_enumerate := PySem.W.mg_none_of X G z_enumerate
  have bI_range := PySem.W.mg_none_of X G z_range
  have bI_max := PySem.W.mg_none_of X G z_max
  have kb_parted_0_other_one : KBinds K (PySem.W.fnOf "parted" "parted" (defArgs s_parted) (defBody s_parted) (defScope s_parted) .none kV_parted dc_parted pm_parted an_parted cd_parted ct_parted) ["one", "other"] ["other", "one"] (fun us ws => match us, ws with | [], [w0, w1] => [w1, w0] | _, _ => []) (fun us ws => match us, ws with | [], [w0, w1] => [w1, w0] | _, _ => []) := by
    refine F_parted.kb (fun _ _ _ _ _ _ us ws hl => ?_) (fun {vs us zs ws} r1 r2 => ?_)
    · skip
      cases us with
      | nil =>
        cases ws with
        | nil => exact absurd (show (0 : Nat) = 2 from hl) (by decide)
        | cons q10 ws =>
          cases ws with
          | nil => exact absurd (show (0 : Nat) = 2 from hl) (by decide)
          | cons q11 ws =>
            cases ws with
            | nil =>
              rfl
            | cons _ _ => exact absurd (show (0 : Nat) = 2 from hl) (by decide)
      | cons _ _ => exact absurd (show (0 : Nat) = 2 from hl) (by decide)
    · skip
      cases r1 with
      | nil =>
        cases r2 with
        | nil => exact .nil
        | cons q10 r2 =>
          cases r2 with
          | nil => exact .nil
          | cons q11 r2 =>
            cases r2 with
            | nil =>
              exact (.cons q11 (.cons q10 .nil))
            | cons _ _ => exact .nil
      | cons _ _ => exact .nil
  refine ⟨_, fun s v => (.of_eq rfl : BindsTo s (PySem.W.fnOf "law" "law" (defArgs s_law) (defBody s_law) (defScope s_law) .none kV_law dc_law pm_law an_law cd_law ct_law) ⟨[v], []⟩ [("_law_script", v)]), fun base _ _ => ?_⟩
  have G_divisor := ok_divisor (Pr := l.prog) (wo := w) (base := base) (mg := mg) F_divisor bI_abs
  have G_is_number := ok_is_number (Pr := l.prog) (wo := w) (base := base) (mg := mg) F_is_number bI_isinstance bI_int bI_bool
  have G_less := ok_less (Pr := l.prog) (wo := w) (base := base) (mg := mg) F_less
  have G__law_cell_at := ok__law_cell_at (Pr := l.prog) (wo := w) (base := base) (mg := mg) F__law_cell_at bI_len
  have G__law_digit := ok__law_digit (Pr := l.prog) (wo := w) (base := base) (mg := mg) F__law_digit bI_len
  have G__law_shared := ok__law_shared (Pr := l.prog) (wo := w) (base := base) (mg := mg) F__law_shared bI_abs
  have G__law_less := ok__law_less (Pr := l.prog) (wo := w) (base := base) (mg := mg) F__law_less
  have G_fraction := ok_fraction (Pr := l.prog) (wo := w) (base := base) (mg := mg) F_fraction T_NoFraction g_divisor k_divisor b_divisor G_divisor g_is_number k_is_number b_is_number G_is_number
  have G_is_fraction := ok_is_fraction (Pr := l.prog) (wo := w) (base := base) (mg := mg) F_is_fraction g_divisor k_divisor b_divisor G_divisor g_is_number k_is_number b_is_number G_is_number bI_isinstance bI_tuple bI_len
  have G_joined_borders := ok_joined_borders (Pr := l.prog) (wo := w) (base := base) (mg := mg) F_joined_borders g_less k_less b_less G_less bI_len
  have G__law_lowest := ok__law_lowest (Pr := l.prog) (wo := w) (base := base) (mg := mg) F__law_lowest g__law_shared k__law_shared b__law_shared G__law_shared
  have G__law_ranked := ok__law_ranked (Pr := l.prog) (wo := w) (base := base) (mg := mg) F__law_ranked g__law_less k__law_less b__law_less G__law_less bI_len
  have G_is_moment := ok_is_moment (Pr := l.prog) (wo := w) (base := base) (mg := mg) F_is_moment g_is_fraction k_is_fraction b_is_fraction G_is_fraction
  have G_plus := ok_plus (Pr := l.prog) (wo := w) (base := base) (mg := mg) F_plus g_fraction k_fraction b_fraction G_fraction
  have G_minus := ok_minus (Pr := l.prog) (wo := w) (base := base) (mg := mg) F_minus g_fraction k_fraction b_fraction G_fraction
  have G_times := ok_times (Pr := l.prog) (wo := w) (base := base) (mg := mg) F_times g_fraction k_fraction b_fraction G_fraction
  have G_shared := ok_shared (Pr := l.prog) (wo := w) (base := base) (mg := mg) F_shared T_NoFraction g_fraction k_fraction b_fraction G_fraction
  have G__law_plus := ok__law_plus (Pr := l.prog) (wo := w) (base := base) (mg := mg) F__law_plus g__law_lowest k__law_lowest b__law_lowest G__law_lowest
  have G__law_minus := ok__law_minus (Pr := l.prog) (wo := w) (base := base) (mg := mg) F__law_minus g__law_lowest k__law_lowest b__law_lowest G__law_lowest
  have G__law_times := ok__law_times (Pr := l.prog) (wo := w) (base := base) (mg := mg) F__law_times g__law_lowest k__law_lowest b__law_lowest G__law_lowest
  have G__law_amount := ok__law_amount (Pr := l.prog) (wo := w) (base := base) (mg := mg) F__law_amount g__law_digit k__law_digit b__law_digit G__law_digit g__law_lowest k__law_lowest b__law_lowest G__law_lowest
  have G_is_edit := ok_is_edit (Pr := l.prog) (wo := w) (base := base) (mg := mg) F_is_edit c_NOUGHT g_is_moment k_is_moment b_is_moment G_is_moment g_is_fraction k_is_fraction b_is_fraction G_is_fraction g_less k_less b_less G_less bI_isinstance bI_tuple bI_len
  have G_sure_moment := ok_sure_moment (Pr := l.prog) (wo := w) (base := base) (mg := mg) F_sure_moment T_NoMoment g_is_moment k_is_moment b_is_moment G_is_moment
  have G_led_by := ok_led_by (Pr := l.prog) (wo := w) (base := base) (mg := mg) F_led_by g_plus k_plus b_plus G_plus g_times k_times b_times G_times
  have G_borders_of := ok_borders_of (Pr := l.prog) (wo := w) (base := base) (mg := mg) F_borders_of c_NOUGHT g_plus k_plus b_plus G_plus
  have G__law_edit := ok__law_edit (Pr := l.prog) (wo := w) (base := base) (mg := mg) F__law_edit g__law_digit k__law_digit b__law_digit G__law_digit g__law_plus k__law_plus b__law_plus G__law_plus g__law_amount k__law_amount b__law_amount G__law_amount g__law_lowest k__law_lowest b__law_lowest G__law_lowest g__law_times k__law_times b__law_times G__law_times
  have G__law_led := ok__law_led (Pr := l.prog) (wo := w) (base := base) (mg := mg) F__law_led g__law_less k__law_less b__law_less G__law_less g__law_minus k__law_minus b__law_minus G__law_minus g__law_plus k__law_plus b__law_plus G__law_plus g__law_times k__law_times b__law_times G__law_times
  have G__law_borders := ok__law_borders (Pr := l.prog) (wo := w) (base := base) (mg := mg) F__law_borders g__law_plus k__law_plus b__law_plus G__law_plus
  have G_is_edits := ok_is_edits (Pr := l.prog) (wo := w) (base := base) (mg := mg) F_is_edits g_is_edit k_is_edit b_is_edit G_is_edit bI_isinstance bI_list bI_all
  have G__law_edits := ok__law_edits (Pr := l.prog) (wo := w) (base := base) (mg := mg) F__law_edits g__law_digit k__law_digit b__law_digit G__law_digit g__law_edit k__law_edit b__law_edit G__law_edit bI_range
  have G__law_alike := ok__law_alike (Pr := l.prog) (wo := w) (base := base) (mg := mg) F__law_alike g__law_borders k__law_borders b__law_borders G__law_borders g__law_ranked k__law_ranked b__law_ranked G__law_ranked g__law_times k__law_times b__law_times G__law_times g__law_plus k__law_plus b__law_plus G__law_plus g__law_led k__law_led b__law_led G__law_led bI_range bI_len
  have G_sure_edits := ok_sure_edits (Pr := l.prog) (wo := w) (base := base) (mg := mg) F_sure_edits T_NoEdits g_is_edits k_is_edits b_is_edits G_is_edits
  have G__law_changed := ok__law_changed (Pr := l.prog) (wo := w) (base := base) (mg := mg) F__law_changed g__law_digit k__law_digit b__law_digit G__law_digit g__law_lowest k__law_lowest b__law_lowest G__law_lowest g__law_times k__law_times b__law_times G__law_times g__law_edits k__law_edits b__law_edits G__law_edits g__law_plus k__law_plus b__law_plus G__law_plus g__law_edit k__law_edit b__law_edit G__law_edit bI_max bI_len
  have G_mapped := ok_mapped (Pr := l.prog) (wo := w) (base := base) (mg := mg) F_mapped g_sure_edits k_sure_edits b_sure_edits G_sure_edits g_sure_moment k_sure_moment b_sure_moment G_sure_moment g_less k_less b_less G_less g_minus k_minus b_minus G_minus g_led_by k_led_by b_led_by G_led_by
  have G_parted := ok_parted (Pr := l.prog) (wo := w) (base := base) (mg := mg) F_parted g_sure_edits k_sure_edits b_sure_edits G_sure_edits g_joined_borders k_joined_borders b_joined_borders G_joined_borders g_borders_of k_borders_of b_borders_of G_borders_of g_shared k_shared b_shared G_shared g_plus k_plus b_plus G_plus g_mapped k_mapped b_mapped G_mapped bI_enumerate
  have G__law_right := ok__law_right (Pr := l.prog) (wo := w) (base := base) (mg := mg) F__law_right g_parted k_parted b_parted G_parted g__law_alike k__law_alike b__law_alike G__law_alike g__law_led k__law_led b__law_led G__law_led bI_list bI_isinstance bI_bool bI_tuple bI_len
  have G_law := ok_law (Pr := l.prog) (wo := w) (base := base) (mg := mg) F_law g__law_edits k__law_edits b__law_edits G__law_edits g__law_changed k__law_changed b__law_changed G__law_changed g_parted k_parted b_parted G_parted g__law_cell_at k__law_cell_at b__law_cell_at G__law_cell_at g__law_right k__law_right b__law_right G__law_right kb_parted_0_other_one
  exact G_law.imp fun vs H Q E h => top_of law_ok h
end A
open PySem PySem.W PyProof.Rows
set_option maxRecDepth 100000 in
set_option maxHeartbeats 0 in
theorem PySem.Challenge.cw_lanescroll_k14_lists_that_part_holds : PySem.Challenge.rw_lanescroll_k14_lists_that_part.Holds := by
  w_on; o_law; k_head; (case hw => w_witness2)
  k_fill
  refine Y.walk_top (l := PySem.Challenge.rw_lanescroll_k14_lists_that_part) (k := 10) (x := "_law_script") rfl rfl ⟨rfl, by decide, by decide⟩ (fun w h Y => PySem.W.kIn_of Y) ?F
  case F =>
    intro w mg fa h KX G hmg
    refine' A.all_mk KX G hmg ?a_divisor ?l_divisor ?c_divisor ?k_divisor ?a_is_number ?l_is_number ?c_is_number ?k_is_number ?a_fraction ?l_fraction ?c_fraction ?k_fraction ?lT_fraction ?a_is_fraction ?l_is_fraction ?c_is_fraction ?k_is_fraction ?a_is_moment ?l_is_moment ?c_is_moment ?k_is_moment ?a_plus ?l_plus ?c_plus ?k_plus ?a_minus ?l_minus ?c_minus ?k_minus ?a_times ?l_times ?c_times ?k_times ?a_shared ?l_shared ?c_shared ?k_shared ?a_less ?l_less ?c_less ?k_less ?a_is_edit ?l_is_edit ?c_is_edit ?k_is_edit ?a_is_edits ?l_is_edits ?c_is_edits ?k_is_edits ?a_sure_edits ?l_sure_edits ?c_sure_edits ?k_sure_edits ?a_sure_moment ?l_sure_moment ?c_sure_moment ?k_sure_moment ?a_led_by ?l_led_by ?c_led_by ?k_led_by ?a_mapped ?l_mapped ?c_mapped ?k_mapped ?a_borders_of ?l_borders_of ?c_borders_of ?k_borders_of ?a_joined_borders ?l_joined_borders ?c_joined_borders ?k_joined_borders ?a_parted ?l_parted ?c_parted ?k_parted ?a__law_cell_at ?l__law_cell_at ?c__law_cell_at ?k__law_cell_at ?a__law_digit ?l__law_digit ?c__law_digit ?k__law_digit ?a__law_shared ?l__law_shared ?c__law_shared ?k__law_shared ?a__law_lowest ?l__law_lowest ?c__law_lowest ?k__law_lowest ?a__law_plus ?l__law_plus ?c__law_plus ?k__law_plus ?a__law_minus ?l__law_minus ?c__law_minus ?k__law_minus ?a__law_times ?l__law_times ?c__law_times ?k__law_times ?a__law_less ?l__law_less ?c__law_less ?k__law_less ?a__law_amount ?l__law_amount ?c__law_amount ?k__law_amount ?a__law_edit ?l__law_edit ?c__law_edit ?k__law_edit ?a__law_edits ?l__law_edits ?c__law_edits ?k__law_edits ?a__law_led ?l__law_led ?c__law_led ?k__law_led ?a__law_changed ?l__law_changed ?c__law_changed ?k__law_changed ?a__law_borders ?l__law_borders ?c__law_borders ?k__law_borders ?a__law_ranked ?l__law_ranked ?c__law_ranked ?k__law_ranked ?a__law_alike ?l__law_alike ?c__law_alike ?k__law_alike ?a__law_right ?l__law_right ?c__law_right ?k__law_right ?a_law ?l_law ?c_law ?k_law ?xca_NoFraction ?xchg_NoFraction ?xchk_NoFraction ?xchs_NoFraction ?xchd_NoFraction ?xcha_NoFraction ?xchm_NoFraction ?xcty_NoFraction ?xckp_NoFraction ?xcve_NoFraction ?xcis_NoFraction ?xcself_NoFraction ?xcex_NoFraction ?xca_NoEdits ?xchg_NoEdits ?xchk_NoEdits ?xchs_NoEdits ?xchd_NoEdits ?xcha_NoEdits ?xchm_NoEdits ?xcty_NoEdits ?xckp_NoEdits ?xcve_NoEdits ?xcis_NoEdits ?xcself_NoEdits ?xcex_NoEdits ?xca_NoMoment ?xchg_NoMoment ?xchk_NoMoment ?xchs_NoMoment ?xchd_NoMoment ?xcha_NoMoment ?xchm_NoMoment ?xcty_NoMoment ?xckp_NoMoment ?xcve_NoMoment ?xcis_NoMoment ?xcself_NoMoment ?xcex_NoMoment ?cg_NOUGHT ?cl_NOUGHT ?xhn ?xht ?z_abs ?z_isinstance ?z_int ?z_bool ?z_tuple ?z_len ?z_list ?z_all ?z_enumerate ?z_range ?z_max
    (case a_divisor => k_is)
    (case l_divisor => k_is)
    (case c_divisor => k_is)
    (case k_divisor => k_is)
    (case a_is_number => k_is)
    (case l_is_number => k_is)
    (case c_is_number => k_is)
    (case k_is_number => k_is)
    (case a_fraction => k_is)
    (case l_fraction => k_is)
    (case c_fraction => k_is)
    (case k_fraction => k_is)
    (case lT_fraction => k_is)
    (case a_is_fraction => k_is)
    (case l_is_fraction => k_is)
    (case c_is_fraction => k_is)
    (case k_is_fraction => k_is)
    (case a_is_moment => k_is)
    (case l_is_moment => k_is)
    (case c_is_moment => k_is)
    (case k_is_moment => k_is)
    (case a_plus => k_is)
    (case l_plus => k_is)
    (case c_plus => k_is)
    (case k_plus => k_is)
    (case a_minus => k_is)
    (case l_minus => k_is)
    (case c_minus => k_is)
    (case k_minus => k_is)
    (case a_times => k_is)
    (case l_times => k_is)
    (case c_times => k_is)
    (case k_times => k_is)
    (case a_shared => k_is)
    (case l_shared => k_is)
    (case c_shared => k_is)
    (case k_shared => k_is)
    (case a_less => k_is)
    (case l_less => k_is)
    (case c_less => k_is)
    (case k_less => k_is)
    (case a_is_edit => k_is)
    (case l_is_edit => k_is)
    (case c_is_edit => k_is)
    (case k_is_edit => k_is)
    (case a_is_edits => k_is)
    (case l_is_edits => k_is)
    (case c_is_edits => k_is)
    (case k_is_edits => k_is)
    (case a_sure_edits => k_is)
    (case l_sure_edits => k_is)
    (case c_sure_edits => k_is)
    (case k_sure_edits => k_is)
    (case a_sure_moment => k_is)
    (case l_sure_moment => k_is)
    (case c_sure_moment => k_is)
    (case k_sure_moment => k_is)
    (case a_led_by => k_is)
    (case l_led_by => k_is)
    (case c_led_by => k_is)
    (case k_led_by => k_is)
    (case a_mapped => k_is)
    (case l_mapped => k_is)
    (case c_mapped => k_is)
    (case k_mapped => k_is)
    (case a_borders_of => k_is)
    (case l_borders_of => k_is)
    (case c_borders_of => k_is)
    (case k_borders_of => k_is)
    (case a_joined_borders => k_is)
    (case l_joined_borders => k_is)
    (case c_joined_borders => k_is)
    (case k_joined_borders => k_is)
    (case a_parted => k_is)
    (case l_parted => k_is)
    (case c_parted => k_is)
    (case k_parted => k_is)
    (case a__law_cell_at => k_is)
    (case l__law_cell_at => k_is)
    (case c__law_cell_at => k_is)
    (case k__law_cell_at => k_is)
    (case a__law_digit => k_is)
    (case l__law_digit => k_is)
    (case c__law_digit => k_is)
    (case k__law_digit => k_is)
    (case a__law_shared => k_is)
    (case l__law_shared => k_is)
    (case c__law_shared => k_is)
    (case k__law_shared => k_is)
    (case a__law_lowest => k_is)
    (case l__law_lowest => k_is)
    (case c__law_lowest => k_is)
    (case k__law_lowest => k_is)
    (case a__law_plus => k_is)
    (case l__law_plus => k_is)
    (case c__law_plus => k_is)
    (case k__law_plus => k_is)
    (case a__law_minus => k_is)
    (case l__law_minus => k_is)
    (case c__law_minus => k_is)
    (case k__law_minus => k_is)
    (case a__law_times => k_is)
    (case l__law_times => k_is)
    (case c__law_times => k_is)
    (case k__law_times => k_is)
    (case a__law_less => k_is)
    (case l__law_less => k_is)
    (case c__law_less => k_is)
    (case k__law_less => k_is)
    (case a__law_amount => k_is)
    (case l__law_amount => k_is)
    (case c__law_amount => k_is)
    (case k__law_amount => k_is)
    (case a__law_edit => k_is)
    (case l__law_edit => k_is)
    (case c__law_edit => k_is)
    (case k__law_edit => k_is)
    (case a__law_edits => k_is)
    (case l__law_edits => k_is)
    (case c__law_edits => k_is)
    (case k__law_edits => k_is)
    (case a__law_led => k_is)
    (case l__law_led => k_is)
    (case c__law_led => k_is)
    (case k__law_led => k_is)
    (case a__law_changed => k_is)
    (case l__law_changed => k_is)
    (case c__law_changed => k_is)
    (case k__law_changed => k_is)
    (case a__law_borders => k_is)
    (case l__law_borders => k_is)
    (case c__law_borders => k_is)
    (case k__law_borders => k_is)
    (case a__law_ranked => k_is)
    (case l__law_ranked => k_is)
    (case c__law_ranked => k_is)
    (case k__law_ranked => k_is)
    (case a__law_alike => k_is)
    (case l__law_alike => k_is)
    (case c__law_alike => k_is)
    (case k__law_alike => k_is)
    (case a__law_right => k_is)
    (case l__law_right => k_is)
    (case c__law_right => k_is)
    (case k__law_right => k_is)
    (case a_law => k_is)
    (case l_law => k_is)
    (case c_law => k_is)
    (case k_law => k_is)
    (case xca_NoFraction => k_is)
    (case xchg_NoFraction => k_is)
    (case xchk_NoFraction => k_is)
    (case xchs_NoFraction => k_is)
    (case xchd_NoFraction => k_is)
    (case xcha_NoFraction => k_is)
    (case xchm_NoFraction => k_is)
    (case xcty_NoFraction => k_is)
    (case xckp_NoFraction => k_is)
    (case xcve_NoFraction => k_is)
    (case xcis_NoFraction => k_is)
    (case xcself_NoFraction => k_is)
    (case xcex_NoFraction => k_exc)
    (case xca_NoEdits => k_is)
    (case xchg_NoEdits => k_is)
    (case xchk_NoEdits => k_is)
    (case xchs_NoEdits => k_is)
    (case xchd_NoEdits => k_is)
    (case xcha_NoEdits => k_is)
    (case xchm_NoEdits => k_is)
    (case xcty_NoEdits => k_is)
    (case xckp_NoEdits => k_is)
    (case xcve_NoEdits => k_is)
    (case xcis_NoEdits => k_is)
    (case xcself_NoEdits => k_is)
    (case xcex_NoEdits => k_exc)
    (case xca_NoMoment => k_is)
    (case xchg_NoMoment => k_is)
    (case xchk_NoMoment => k_is)
    (case xchs_NoMoment => k_is)
    (case xchd_NoMoment => k_is)
    (case xcha_NoMoment => k_is)
    (case xchm_NoMoment => k_is)
    (case xcty_NoMoment => k_is)
    (case xckp_NoMoment => k_is)
    (case xcve_NoMoment => k_is)
    (case xcis_NoMoment => k_is)
    (case xcself_NoMoment => k_is)
    (case xcex_NoMoment => k_exc)
    (case cg_NOUGHT => k_is)
    (case cl_NOUGHT => k_is)
    (case xhn => k_is)
    (case xht => k_is)
    (case z_abs => k_is)
    (case z_isinstance => k_is)
    (case z_int => k_is)
    (case z_bool => k_is)
    (case z_tuple => k_is)
    (case z_len => k_is)
    (case z_list => k_is)
    (case z_all => k_is)
    (case z_enumerate => k_is)
    (case z_range => k_is)
    (case z_max => k_is)
