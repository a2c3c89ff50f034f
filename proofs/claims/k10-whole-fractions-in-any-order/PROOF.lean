import PyProof.Rows.All
import Wide.All
import OpenK.AllK
import Wide.FinOn
import HandS.ForMost
import HandS.Evl
import HandS.IsInst
import HandS.Flow
import HandS.Defaults
import HandS.Wide
import HandS.WideMore
import HandS.Style
import HandS.ForExc
import HandS.TryOnly
import HandS.CallSlots
import HandS.ExcIs
import PySem.Challenge.RW_lanescroll_k10_whole_fractions_in_any_or
set_option Elab.async false
set_option linter.all false
set_option maxRecDepth 100000
set_option maxHeartbeats 2000000
namespace Y
open PySem PySem.Spec PyProof.Rows
open L2

/-- data: what a value stands for, through the heap -/
inductive D where
  | non | bl (b : Bool) | int (i : Int) | str (x : Str)
  | lst (ds : List D) | tup (ds : List D) | dic (kvs : List (Key × D))

abbrev Ex (H H' : Hp) : Prop := ∀ a o, H a = some o → H' a = some o
theorem Ex.refl (H : Hp) : Ex H H := fun _ _ h => h
theorem Ex.trans {H H1 H2 : Hp} (a : Ex H H1) (b : Ex H1 H2) : Ex H H2 := fun x o h => b x o (a x o h)
theorem Ex.new {H : Hp} {p : Addr} {o : HO} (h : H p = none) : Ex H (upd H p o) := fun a u e => by
  rw [upd_ne (ne_of_none e h)]
  exact e
theorem Ex.upd {B H : Hp} {p : Addr} {o : HO} (e : Ex B H) (h : B p = none) : Ex B (upd H p o) := fun a u ha => by
  rw [upd_ne (ne_of_none ha h)]
  exact e a u ha
theorem Ex.both {B H : Hp} {p : Addr} {o : HO} (e : Ex B H) : Ex (L2.upd B p o) (L2.upd H p o) := fun a u ha => by
  by_cases q : a = p
  · subst q; rw [upd_same] at ha; cases ha; exact upd_same
  · rw [upd_ne q] at ha; rw [upd_ne q]; exact e a u ha
theorem Ex.none {H H' : Hp} {p : Addr} (e : Ex H H') (h : H' p = none) : H p = none := by
  cases h1 : H p with
  | none => rfl
  | some o => rw [e p o h1] at h; cases h
theorem Ex.rd {H H' : Hp} {a : Addr} {u : HO} (e : Ex H H') (h : Rd H a u) : Rd H' a u := by
  rcases h with h | ⟨o, h⟩
  · exact Or.inl (e a _ h)
  · exact Or.inr ⟨o, e a _ h⟩
theorem Ex.l {K : PySem.W.Frag} {H H' : Hp} {a : Addr} {xs : List V} (e : Ex H H') (h : SqL K H a xs) : SqL K H' a xs := by
  rcases h with h | h
  · exact Or.inl (e.rd h)
  · exact Or.inr h
theorem Ex.t {K : PySem.W.Frag} {H H' : Hp} {a : Addr} {xs : List V} (e : Ex H H') (h : SqT K H a xs) : SqT K H' a xs := by
  rcases h with h | h
  · exact Or.inl (e.rd h)
  · exact Or.inr h

mutual
/-- v stands for d -/
inductive Rep (K : PySem.W.Frag) (B : Hp) : V → D → Prop where
  | non : Rep K B .non .non
  | bl (b : Bool) : Rep K B (.bl b) (.bl b)
  | int (i : Int) : Rep K B (.int i) (.int i)
  | str (x : Str) : Rep K B (.str x) (.str x)
  | lst {p : Addr} {xs : List V} {ds : List D} (h : SqL K B p xs) (r : RepL K B xs ds) : Rep K B (.ref p) (.lst ds)
  | tup {p : Addr} {xs : List V} {ds : List D} (h : SqT K B p xs) (r : RepL K B xs ds) : Rep K B (.ref p) (.tup ds)
  | dic {p : Addr} {kvs : List (Key × V)} {ds : List (Key × D)} (h : B p = some (.dK kvs)) (r : RepK K B kvs ds) : Rep K B (.ref p) (.dic ds)
inductive RepL (K : PySem.W.Frag) (B : Hp) : List V → List D → Prop where
  | nil : RepL K B [] []
  | cons {v : V} {d : D} {vs : List V} {ds : List D} (h : Rep K B v d) (t : RepL K B vs ds) : RepL K B (v :: vs) (d :: ds)
inductive RepK (K : PySem.W.Frag) (B : Hp) : List (Key × V) → List (Key × D) → Prop where
  | nil : RepK K B [] []
  | cons {k : Key} {v : V} {d : D} {vs : List (Key × V)} {ds : List (Key × D)} (h : Rep K B v d) (t : RepK K B vs ds) : RepK K B ((k, v) :: vs) ((k, d) :: ds)
end
section
variable {K : PySem.W.Frag} {B B' H : Hp}
mutual
theorem Rep.mono (e : Ex B B') : ∀ {v : V} {d : D}, Rep K B v d → Rep K B' v d
  | _, _, .non => .non
  | _, _, .bl b => .bl b
  | _, _, .int i => .int i
  | _, _, .str x => .str x
  | _, _, .lst h r => .lst (e.l h) (RepL.mono e r)
  | _, _, .tup h r => .tup (e.t h) (RepL.mono e r)
  | _, _, .dic h r => .dic (e _ _ h) (RepK.mono e r)
theorem RepL.mono (e : Ex B B') : ∀ {vs : List V} {ds : List D}, RepL K B vs ds → RepL K B' vs ds
  | _, _, .nil => .nil
  | _, _, .cons h t => .cons (Rep.mono e h) (RepL.mono e t)
theorem RepK.mono (e : Ex B B') : ∀ {vs : List (Key × V)} {ds : List (Key × D)}, RepK K B vs ds → RepK K B' vs ds
  | _, _, .nil => .nil
  | _, _, .cons h t => .cons (Rep.mono e h) (RepK.mono e t)
end
theorem RepL.length : ∀ {vs : List V} {ds : List D}, RepL K B vs ds → vs.length = ds.length
  | _, _, .nil => rfl
  | _, _, .cons _ t => congrArg Nat.succ (RepL.length t)
theorem RepL.get : ∀ {vs : List V} {ds : List D} {i : Nat} {d : D}, RepL K B vs ds → ds[i]? = some d → ∃ v, vs[i]? = some v ∧ Rep K B v d
  | _, _, _, _, .nil, e => by simp at e
  | _, _, 0, _, .cons r _, e => by simp at e; subst e; exact ⟨_, rfl, r⟩
  | _, _, i + 1, x, .cons _ t, e => by
    obtain ⟨u, h1, h2⟩ := RepL.get (i := i) (d := x) t (by simpa using e)
    exact ⟨u, by simpa using h1, h2⟩
theorem RepL.append : ∀ {vs ws : List V} {ds es : List D}, RepL K B vs ds → RepL K B ws es → RepL K B (vs ++ ws) (ds ++ es)
  | _, _, _, _, .nil, s => s
  | _, _, _, _, .cons r t, s => .cons r (RepL.append t s)
theorem RepL.at {vs : List V} {ds : List D} {i : Int} {d : D} (r : RepL K B vs ds) (h : atI ds i = some d) : ∃ v, atI vs i = some v ∧ Rep K B v d := by
  unfold atI at h ⊢
  rw [r.length]
  cases e : ixN ds.length i with
  | none => rw [e] at h; cases h
  | some j => rw [e] at h; exact r.get h
theorem RepL.ints : ∀ (ns : List Int), RepL K B (ns.map V.int) (ns.map D.int)
  | [] => .nil
  | n :: r => .cons (.int n) (RepL.ints r)
theorem RepL.of_ints : ∀ {vs : List V} {ns : List Int}, RepL K B vs (ns.map D.int) → vs = ns.map V.int
  | [], [], _ => rfl
  | _ :: _, [], r => nomatch r
  | [], _ :: _, r => nomatch r
  | v :: vs, n :: ns, r => by
    cases r with
    | cons h t =>
      cases h
      rw [RepL.of_ints t]
      rfl
end

/-- from (B, H), what is known and the heap, to (B', H'), writing at most at W -/
structure Stp (W : List Addr) (B H B' H' : Hp) : Prop where
  ex : Ex B B'
  ok : Ex B' H'
  fr : ∀ a o, a ∉ W → H a = some o → H' a = some o
  al : ∀ a o, H a = some o → ∃ o', H' a = some o'
  nw : ∀ a o, B a = none → H a = some o → B' a = none
section
variable {W W' : List Addr} {B H B' H' B1 H1 B2 H2 : Hp} {p : Addr} {o : HO}
theorem Stp.refl (w : Ex B H) : Stp W B H B H := ⟨Ex.refl B, w, fun _ _ _ h => h, fun _ o h => ⟨o, h⟩, fun _ _ h _ => h⟩
theorem Stp.trans (a : Stp W B H B1 H1) (b : Stp W B1 H1 B2 H2) : Stp W B H B2 H2 :=
  ⟨a.ex.trans b.ex, b.ok, fun x o hx h => b.fr x o hx (a.fr x o hx h), fun x o h => let ⟨o1, h1⟩ := a.al x o h; b.al x o1 h1, fun x o hb h => let ⟨o1, h1⟩ := a.al x o h; b.nw x o1 (a.nw x o hb h) h1⟩
theorem Stp.w (a : Stp W B H B1 H1) (h : ∀ x, x ∈ W → x ∈ W') : Stp W' B H B1 H1 := ⟨a.ex, a.ok, fun x o hx e => a.fr x o (fun z => hx (h x z)) e, a.al, a.nw⟩
theorem Stp.w0 (a : Stp [] B H B1 H1) : Stp W B H B1 H1 := a.w fun _ h => nomatch h
/-- a new object that stays -/
theorem Stp.new (w : Ex B H) (h : H p = none) : Stp W B H (upd B p o) (upd H p o) :=
  ⟨Ex.new (w.none h), w.both, fun a u _ e => Ex.new h a u e, fun a u e => ⟨u, Ex.new h a u e⟩, fun a u hb e => by rw [upd_ne (ne_of_none e h)]; exact hb⟩
/-- a new object that may change -/
theorem Stp.newM (w : Ex B H) (h : H p = none) : Stp W B H B (upd H p o) :=
  ⟨Ex.refl B, w.upd (w.none h), fun a u _ e => Ex.new h a u e, fun a u e => ⟨u, Ex.new h a u e⟩, fun a u hb _ => hb⟩
/-- a changed object of W -/
theorem Stp.set (w : Ex B H) (hp : p ∈ W) (hb : B p = none) {u : HO} (hu : H p = some u) : Stp W B H B (upd H p o) :=
  ⟨Ex.refl B, w.upd hb, fun a u hx e => by rw [upd_ne (fun z => hx (by rw [z]; exact hp))]; exact e, fun a u e => by
    by_cases q : a = p
    · subst q; exact ⟨o, upd_same⟩
    · exact ⟨u, by rw [upd_ne q]; exact e⟩, fun _ _ h _ => h⟩
/-- an object of our own, made behind the entry, changed -/
theorem Stp.own (a : Stp W B H B1 H1) (h0 : H p = none) (hb : B1 p = none) (h : ∃ u, H1 p = some u) : Stp W B H B1 (upd H1 p o) :=
  ⟨a.ex, a.ok.upd hb, fun x u hx e => by rw [upd_ne (ne_of_none e h0)]; exact a.fr x u hx e, fun x u e => by
    rw [upd_ne (ne_of_none e h0)]; exact a.al x u e, a.nw⟩
/-- an object of our own turns into one that stays -/
theorem Stp.keep (w : Ex B H) (a : Stp W B H B1 H1) (h0 : H p = none) (hb : B1 p = none) (h : H1 p = some o) : Stp W B H (upd B1 p o) H1 :=
  ⟨fun x u e => by rw [upd_ne (ne_of_none e (w.none h0))]; exact a.ex x u e, fun x u e => by
    by_cases q : x = p
    · subst q; rw [upd_same] at e; cases e; exact h
    · rw [upd_ne q] at e; exact a.ok x u e, a.fr, a.al, fun x u hb e => by rw [upd_ne (ne_of_none e h0)]; exact a.nw x u hb e⟩
end
/-! ### mirrors -/
/-- an error that is raised: the class's name, what it is told -/
structure Err where
  cls : Str
  args : List D := []
/-- what a mirror gives: a value, an error, or a place that the model does not serve -/
inductive Res (α : Type) where
  | ok (a : α) | err (e : Err) | stuck
def Res.bind {α β : Type} (m : Res α) (k : α → Res β) : Res β := match m with | .ok a => k a | .err e => .err e | .stuck => .stuck
/-- an error that nobody waits for -/
def Res.noErr {α : Type} (m : Res α) : Res α := match m with | .ok a => .ok a | _ => .stuck
instance : Monad Res where
  pure := Res.ok
  bind := Res.bind
def Post0 {α : Type} (m : Res α) (P : α → Prop) (R : Err → Prop) : Prop := match m with | .ok a => P a | .err e => R e | .stuck => False
/-- what the mirror gives is wished for: a structure, so that nothing looks into it -/
structure Post {α : Type} (m : Res α) (P : α → Prop) (R : Err → Prop) : Prop where
  h0 : Post0 m P R
section
variable {α β : Type} {m : Res α} {P P' : α → Prop} {R R' : Err → Prop} {a : α}
theorem Post.mono (h : Post m P R) (hp : ∀ a, P a → P' a) (hr : ∀ e, R e → R' e) : Post m P' R' := by
  obtain ⟨h⟩ := h
  refine ⟨?_⟩
  cases m with
  | ok a => exact hp a h
  | err e => exact hr e h
  | stuck => exact h
theorem Post.bind {k : α → Res β} {P : β → Prop} (h : Post (m.bind k) P R) : Post m (fun a => Post (k a) P R) R := by
  obtain ⟨h⟩ := h
  refine ⟨?_⟩
  cases m
  · exact ⟨h⟩
  · exact h
  · exact h
theorem Post.noErr (h : Post m.noErr P R) : Post m P (fun _ => False) := by
  obtain ⟨h⟩ := h
  refine ⟨?_⟩
  cases m with
  | ok a => exact h
  | err e => exact h
  | stuck => exact h
theorem Post.ok (h : Post (.ok a) P R) : P a := h.h0
theorem Post.err {e : Err} (h : Post (.err e : Res α) P R) : R e := h.h0
theorem Post.elim {C : Prop} (h : Post (.stuck : Res α) P R) : C := False.elim h.h0
theorem Post.mk' (h : P a) : Post (.ok a) P R := ⟨h⟩
theorem Post.iteT {c : Bool} {m m' : Res α} (h : Post (if c = true then m else m') P R) (hc : c = true) : Post m P R := by
  rw [if_pos hc] at h; exact h
theorem Post.iteF {c : Bool} {m m' : Res α} (h : Post (if c = true then m else m') P R) (hc : c = false) : Post m' P R := by
  rw [hc, if_neg Bool.false_ne_true] at h; exact h
theorem Post.is {m' : Res α} (h : Post m P R) (e : m = m') : Post m' P R := e ▸ h
end
/-- an item -/
def ixR {α : Type} (l : List α) (i : Int) : Res α := match atI l i with | some x => .ok x | none => .stuck
theorem Post.ix {α β : Type} {l : List α} {i : Int} {k : α → Res β} {P : β → Prop} {R : Err → Prop} (h : Post ((ixR l i).bind k) P R) : ∃ x, atI l i = some x ∧ Post (k x) P R := by
  unfold ixR at h
  cases e : atI l i with
  | none => rw [e] at h; exact h.elim
  | some x => rw [e] at h; exact ⟨x, rfl, h⟩
/-- where c holds -/
def guardR {α : Type} (c : Prop) [Decidable c] (m : Res α) : Res α := if c then m else .stuck
theorem Post.guard {α : Type} {c : Prop} [Decidable c] {m : Res α} {P : α → Prop} {R : Err → Prop} (h : Post (guardR c m) P R) : c ∧ Post m P R := by
  unfold guardR at h
  by_cases e : c
  · rw [if_pos e] at h; exact ⟨e, h⟩
  · rw [if_neg e] at h; exact h.elim
instance (i j : Int) : Decidable (CMulW i j) := by unfold CMulW; infer_instance
instance (i j : Int) : Decidable (CDivW i j) := by unfold CDivW; infer_instance
/-- a loop's turn: on, or a value that is returned, or out -/
inductive Fl (S R : Type) where
  | nx (s : S) | rt (r : R) | bk (s : S)
def forR {α S R : Type} : List α → S → (α → S → Res (Fl S R)) → Res (Fl S R)
  | [], s, _ => .ok (.nx s)
  | x :: xs, s, f => (f x s).bind fun r => match r with | .nx s' => forR xs s' f | r => .ok r
theorem Post.forS {α S R : Type} {l : List α} {i : Nat} {s : S} {f : α → S → Res (Fl S R)} {P : Fl S R → Prop} {E : Err → Prop} {x : α} (h : Post (forR (l.drop i) s f) P E) (hx : l[i]? = some x) :
    Post (f x s) (fun r => match r with | .nx s' => Post (forR (l.drop (i + 1)) s' f) P E | .rt v => P (.rt v) | .bk s' => P (.bk s')) E := by
  obtain ⟨hi, e⟩ := List.getElem?_eq_some_iff.mp hx
  rw [List.drop_eq_getElem_cons hi, e] at h
  exact (Post.bind h).mono (fun r q => by
    cases r
    · exact q
    · exact q.ok
    · exact q.ok) fun _ q => q
theorem Post.forN {α S R : Type} {l : List α} {i : Nat} {s : S} {f : α → S → Res (Fl S R)} {P : Fl S R → Prop} {E : Err → Prop} (h : Post (forR (l.drop i) s f) P E) (hi : l.length ≤ i) : P (.nx s) := by
  rw [List.drop_eq_nil_of_le hi] at h
  exact h.ok

/-! ### what stands for data -/
class Enc (α : Type) where
  enc : α → D
open Enc (enc)
structure Tp1 (α : Type) where
  a : α
structure Tp2 (α β : Type) where
  a : α
  b : β
structure Tp3 (α β γ : Type) where
  a : α
  b : β
  c : γ
structure Tp4 (α β γ δ : Type) where
  a : α
  b : β
  c : γ
  d : δ
structure Tp5 (α β γ δ ε : Type) where
  a : α
  b : β
  c : γ
  d : δ
  e : ε
instance : Enc Int := ⟨.int⟩
instance : Enc Bool := ⟨.bl⟩
instance : Enc Str := ⟨.str⟩
instance : Enc Unit := ⟨fun _ => .non⟩
instance : Enc D := ⟨id⟩
instance {α : Type} [Enc α] : Enc (List α) := ⟨fun l => .lst (l.map enc)⟩
instance {α : Type} [Enc α] : Enc (Option α) := ⟨fun o => match o with | some x => enc x | none => .non⟩
instance {α : Type} [Enc α] : Enc (Tp1 α) := ⟨fun t => .tup [enc t.a]⟩
instance {α β : Type} [Enc α] [Enc β] : Enc (Tp2 α β) := ⟨fun t => .tup [enc t.a, enc t.b]⟩
instance {α β γ : Type} [Enc α] [Enc β] [Enc γ] : Enc (Tp3 α β γ) := ⟨fun t => .tup [enc t.a, enc t.b, enc t.c]⟩
instance {α β γ δ : Type} [Enc α] [Enc β] [Enc γ] [Enc δ] : Enc (Tp4 α β γ δ) := ⟨fun t => .tup [enc t.a, enc t.b, enc t.c, enc t.d]⟩
instance {α β γ δ ε : Type} [Enc α] [Enc β] [Enc γ] [Enc δ] [Enc ε] : Enc (Tp5 α β γ δ ε) := ⟨fun t => .tup [enc t.a, enc t.b, enc t.c, enc t.d, enc t.e]⟩

/-- a list that may change: at p, outside of what is known for good -/
def Mu (K : PySem.W.Frag) (B H : Hp) (p : Addr) (ds : List D) : Prop := B p = none ∧ ∃ xs, H p = some (.lst xs) ∧ RepL K B xs ds
/-- a list that stands in the written part -/
def KL (K : PySem.W.Frag) (a : Addr) (xs : List V) : Prop := ∃ (o : Obj) (its : Array Value) (n : Nat), K.lookup a = some o ∧ o.cls = .type "list" ∧ o.dict = none ∧ o.data = .seq its n ∧ its.size ≤ sizeLine ∧ Vals xs its.toList
/-- a list that is read: at v now -/
def Bor (K : PySem.W.Frag) (B H : Hp) (W : List Addr) (v : V) (ds : List D) : Prop := ∃ p xs, v = .ref p ∧ ((Rd H p (.lst xs) ∧ p ∉ W) ∨ KL K p xs) ∧ RepL K B xs ds
/-- what a return hands on -/
def Ret (K : PySem.W.Frag) (W : List Addr) (B H : Hp) (d : D) (Q : VK) : Prop := ∀ v B' H', Stp W B H B' H' → Rep K B' v d → Q v H'
/-- .. where the list at p may have changed -/
def RetM (K : PySem.W.Frag) (p : Addr) (B H : Hp) (d : D) (ds : List D) (Q : VK) : Prop := ∀ v B' H', Stp [p] B H B' H' → Mu K B' H' p ds → Rep K B' v d → Q v H'
/-- .. that is raised -/
def Rai (mg : Str → Option Value) (W : List Addr) (B H : Hp) (e : Err) (E : XK) : Prop := ∀ C B' H', mg e.cls = some (.ref C) → Stp W B H B' H' → E (.ref C) none H'
section
variable {K : PySem.W.Frag} {B B' B1 H H' H1 : Hp} {W : List Addr} {p q : Addr} {ds es : List D} {xs : List V} {d : D} {v : V} {Q : VK} {mg : Str → Option Value} {E : XK}
theorem Mu.step (m : Mu K B H p ds) (s : Stp W B H B' H') (h : p ∉ W) : Mu K B' H' p ds := by
  obtain ⟨hb, xs, hp, r⟩ := m
  exact ⟨s.nw p _ hb hp, xs, s.fr p _ h hp, r.mono s.ex⟩
theorem Mu.new (w : Ex B H) (h : H p = none) (r : RepL K B xs ds) : Mu K B (upd H p (.lst xs)) p ds := ⟨w.none h, xs, upd_same, r⟩
theorem Mu.bor (m : Mu K B H p ds) (h : p ∉ W) : Bor K B H W (.ref p) ds := by
  obtain ⟨hb, xs, hp, r⟩ := m
  exact ⟨p, xs, rfl, .inl ⟨.inl hp, h⟩, r⟩
theorem Mu.ne (m : Mu K B H p ds) (h : H q = none) : p ≠ q := by
  obtain ⟨hb, xs, hp, r⟩ := m
  exact ne_of_none hp h
theorem Bor.step (m : Bor K B H W v ds) (s : Stp W B H B' H') : Bor K B' H' W v ds := by
  obtain ⟨p, xs, e, hp, r⟩ := m
  refine ⟨p, xs, e, ?_, r.mono s.ex⟩
  rcases hp with ⟨hp | ⟨o, hp⟩, hw⟩ | hp
  · exact .inl ⟨.inl (s.fr p _ hw hp), hw⟩
  · exact .inl ⟨.inr ⟨o, s.fr p _ hw hp⟩, hw⟩
  · exact .inr hp
theorem Bor.w {W' : List Addr} (m : Bor K B H W v ds) (h : ∀ x, x ∈ W' → x ∈ W) : Bor K B H W' v ds := by
  obtain ⟨p, xs, e, hp, r⟩ := m
  refine ⟨p, xs, e, ?_, r⟩
  rcases hp with ⟨hp, hw⟩ | hp
  · exact .inl ⟨hp, fun z => hw (h p z)⟩
  · exact .inr hp
theorem Bor.sq (m : Bor K B H W v ds) : ∃ p xs, v = .ref p ∧ SqL K H p xs ∧ RepL K B xs ds := by
  obtain ⟨p, xs, e, hp, r⟩ := m
  refine ⟨p, xs, e, ?_, r⟩
  rcases hp with ⟨hp, _⟩ | hp
  · exact .inl hp
  · exact .inr hp
theorem Rep.bor (w : Ex B H) (r : Rep K B v (.lst ds)) (h : ∀ x, x ∈ W → B x = none) : Bor K B H W v ds := by
  cases r with
  | @lst p xs _ hp r =>
    refine ⟨p, xs, rfl, ?_, r⟩
    rcases hp with hp | hp
    · refine .inl ⟨w.rd hp, fun z => ?_⟩
      have e := h p z
      rcases hp with hp | ⟨o, hp⟩
      · rw [hp] at e; cases e
      · rw [hp] at e; cases e
    · exact .inr hp
theorem Rep.bor0 (w : Ex B H) (r : Rep K B v (.lst ds)) : Bor K B H [] v ds := r.bor w (fun _ z => nomatch z)
theorem Rep.sq (w : Ex B H) (r : Rep K B v (.lst ds)) : ∃ p xs, v = .ref p ∧ SqL K H p xs ∧ RepL K B xs ds := by
  cases r with
  | @lst p xs _ hp r => exact ⟨p, xs, rfl, w.l hp, r⟩
theorem Rep.st (w : Ex B H) (r : Rep K B v (.tup ds)) : ∃ p xs, v = .ref p ∧ SqT K H p xs ∧ RepL K B xs ds := by
  cases r with
  | @tup p xs _ hp r => exact ⟨p, xs, rfl, w.t hp, r⟩
theorem Mu.sq (m : Mu K B H p ds) : ∃ xs, H p = some (.lst xs) ∧ SqL K H p xs ∧ RepL K B xs ds := by
  obtain ⟨hb, xs, hp, r⟩ := m
  exact ⟨xs, hp, SqL.of hp, r⟩
theorem Stp.mut (w : Ex B H) (m : Mu K B H p ds) (r : RepL K B xs es) : Stp [p] B H B (upd H p (.lst xs)) ∧ Mu K B (upd H p (.lst xs)) p es := by
  obtain ⟨hb, ys, hp, _⟩ := m
  exact ⟨Stp.set w (by simp) hb hp, hb, xs, upd_same, r⟩
end
/-- the built-in type of a thing -/
def tyD : D → String
  | .non => "NoneType" | .bl _ => "bool" | .int _ => "int" | .str _ => "str" | .lst _ => "list" | .tup _ => "tuple" | .dic _ => "dict"
theorem Rep.ty {K : PySem.W.Frag} {B H : Hp} {v : V} {d : D} (w : Ex B H) (r : Rep K B v d) : TyX K H v (.type (tyD d)) := by
  cases r with
  | non => exact .base .non
  | bl b => exact .base (.bl b)
  | int i => exact .base (.int i)
  | str x => exact .base (.str x)
  | lst h r =>
    rcases h with (h | ⟨o, h⟩) | ⟨o, its, n, h, hc, _⟩
    · exact .base (.lst (w _ _ h))
    · exact .base (.frz (w _ _ h))
    · exact .kList h hc
  | tup h r =>
    rcases h with (h | ⟨o, h⟩) | ⟨o, its, n, h, hc, _⟩
    · exact .base (.tup (w _ _ h))
    · exact .fTuple (w _ _ h)
    · exact .kTuple h hc
  | dic h r => exact .base (.dK (w _ _ h))
def isS (s t : String) : Bool := s == t || (s == "bool" && t == "int")
def isA (t : String) (d : D) : Bool := isS (tyD d) t
theorem kit_tab : ∀ s ∈ ["NoneType", "bool", "int", "str", "list", "tuple", "dict"], ∀ t ∈ ["bool", "int", "str", "list", "tuple", "dict"], kitB s t = some (isS s t) := by decide +kernel
theorem tyD_in (d : D) : tyD d ∈ ["NoneType", "bool", "int", "str", "list", "tuple", "dict"] := by cases d <;> simp [tyD]
/-- isinstance(x, int | bool | str | list | tuple | dict) -/
theorem isi {K : PySem.W.Frag} {B H : Hp} {v : V} {d : D} {t : String} {Q : VK} (w : Ex B H) (r : Rep K B v d) (q : Q (.bl (isA t d)) H) (ht : t ∈ ["bool", "int", "str", "list", "tuple", "dict"] := by simp) : rIsi K [v, .ty t] H Q :=
  ⟨v, .ty t, _, .type t, isA t d, rfl, .ty t, r.ty w, kit_ty (kit_tab _ (tyD_in d) _ ht), q⟩
theorem boot_bool : bootBuiltins "bool" = some (.type "bool") := by decide +kernel
theorem boot_int : bootBuiltins "int" = some (.type "int") := by decide +kernel
theorem boot_str : bootBuiltins "str" = some (.type "str") := by decide +kernel
theorem boot_list : bootBuiltins "list" = some (.type "list") := by decide +kernel
theorem boot_tuple : bootBuiltins "tuple" = some (.type "tuple") := by decide +kernel
theorem boot_dict : bootBuiltins "dict" = some (.type "dict") := by decide +kernel

/-! ### readings, step by step -/
def NwL (xs : List V) (H : Hp) (Q : VK) : Prop := ∀ p, H p = none → Q (.ref p) (upd H p (.lst xs))
def NwT (xs : List V) (H : Hp) (Q : VK) : Prop := ∀ p, H p = none → Q (.ref p) (upd H p (.tup xs))
def NewL (xs : List V) (H : Hp) (Q : VK) : Prop := xs.length ≤ sizeLine ∧ NwL xs H Q
def NewT (xs : List V) (H : Hp) (Q : VK) : Prop := xs.length ≤ sizeLine ∧ NwT xs H Q
section
variable {K : PySem.W.Frag} {σ σ' : L2.St} {H : Hp} {Q : VK} {D' : Ends} {te ta tb tc : TE} {tt tt' : TT} {t u z : TS} {tl : TA} {v x y : V} {i j : Int} {n : Nat} {r r' : R2} {W : List Addr}
theorem h_seq (h : t { D' with nx := u D' } σ H) : tSeq t u D' σ H := h
theorem h_set (h : te σ H fun x H1 => u D' (σ.set n (some x)) H1) : tSeq (tAsg te (gName n)) u D' σ H := h
theorem h_set1 (h : te σ H fun x H1 => D'.nx (σ.set n (some x)) H1) : tAsg te (gName n) D' σ H := h
theorem h_nrm {T : L2.St → Hp → Prop} (h : T σ' H) (e : σ' = σ := by rfl) : T σ H := e ▸ h
theorem h_drop (h : te σ H fun _ H1 => D'.nx σ H1) : tDrop te D' σ H := h
theorem h_ret (h : te σ H D'.rt) : tRet te D' σ H := h
theorem h_if {c : TT} (h : c σ H fun b H1 => if b = true then t D' σ H1 else u D' σ H1) : tIfS c t u D' σ H := h
theorem h_next (h : D'.nx σ H) : tNext D' σ H := h
theorem h_nx {a c d : L2.St → Hp → Prop} {b : VK} (h : a σ H) : (Ends.mk a b c d).nx σ H := h
theorem h_var (e : σ[n]? = some (some v)) (h : Q v H) : tVar n σ H Q := ⟨v, e, h⟩
theorem h_c (h : Q v H) : tC v σ H Q := h
theorem h_op (h : ta σ H fun x H1 => tb σ H1 fun y H2 => r x y H2 Q) : tOp r ta tb σ H Q := h
theorem h_I0 {g : Int → Int → V} (h : Q (g i j) H) : rI0 g (.int i) (.int j) H Q := ⟨i, j, rfl, rfl, h⟩
theorem h_I {C : Int → Int → Prop} {g : Int → Int → V} (c : C i j) (h : Q (g i j) H) : rI C g (.int i) (.int j) H Q := ⟨i, j, rfl, rfl, c, h⟩
theorem h_un {f : V → Hp → VK → Prop} (h : ta σ H fun x H1 => f x H1 Q) : tUn f ta σ H Q := h
theorem h_U {g : Int → V} (h : Q (g i) H) : rU g (.int i) H Q := ⟨i, rfl, h⟩
theorem h_eq (s : scal x y = true) (h : Q (.bl (decide (x = y))) H) : rEq x y H Q := ⟨s, h⟩
theorem h_ne (s : scal x y = true) (h : Q (.bl (!decide (x = y))) H) : rNe x y H Q := ⟨s, h⟩
theorem dec_i : decide (V.int i = V.int j) = decide (i = j) := by simp
theorem dec_b {i j : Bool} : decide (V.bl i = V.bl j) = decide (i = j) := by simp
theorem dec_s {i j : Str} : decide (V.str i = V.str j) = decide (i = j) := by simp
theorem h_eqI (h : Q (.bl (decide (i = j))) H) : rEq (.int i) (.int j) H Q := ⟨rfl, by rw [dec_i]; exact h⟩
theorem h_neI (h : Q (.bl (!decide (i = j))) H) : rNe (.int i) (.int j) H Q := ⟨rfl, by rw [dec_i]; exact h⟩
theorem h_eqS {i j : Str} (h : Q (.bl (decide (i = j))) H) : rEq (.str i) (.str j) H Q := ⟨rfl, by rw [dec_s]; exact h⟩
theorem h_neS {i j : Str} (h : Q (.bl (!decide (i = j))) H) : rNe (.str i) (.str j) H Q := ⟨rfl, by rw [dec_s]; exact h⟩
theorem h_eqB {i j : Bool} (h : Q (.bl (decide (i = j))) H) : rEq (.bl i) (.bl j) H Q := ⟨rfl, by rw [dec_b]; exact h⟩
theorem h_neB {i j : Bool} (h : Q (.bl (!decide (i = j))) H) : rNe (.bl i) (.bl j) H Q := ⟨rfl, by rw [dec_b]; exact h⟩
theorem h_chain (h : ta σ H fun x H1 => tb σ H1 fun y H2 => r x y H2 fun z H3 => ∃ k, z = .bl k ∧ (if k = true then tc σ H3 fun w' H4 => r' y w' H4 Q else Q (.bl false) H3)) : tChain r r' ta tb tc σ H Q := h
theorem h_chk {k : Bool} {A : Prop} {w : V} {f : Bool → Prop} (hw : w = .bl k) (h : f k) : ∃ k, w = .bl k ∧ f k := ⟨k, hw, h⟩
theorem h_and (h : ta σ H fun x H1 => ∃ c, x = .bl c ∧ if c = true then tb σ H1 Q else Q (.bl false) H1) : tAndV ta tb σ H Q := h
theorem h_or (h : ta σ H fun x H1 => ∃ c, x = .bl c ∧ if c = true then Q (.bl true) H1 else tb σ H1 Q) : tOrV ta tb σ H Q := h
theorem h_not (h : ta σ H fun x H1 => ∃ c, x = .bl c ∧ Q (.bl (!c)) H1) : tNotV ta σ H Q := h
theorem h_tand {Q : Bool → Hp → Prop} (h : tt σ H fun c H1 => if c = true then tt' σ H1 Q else Q false H1) : tAnd tt tt' σ H Q := h
theorem h_tor {Q : Bool → Hp → Prop} (h : tt σ H fun c H1 => if c = true then Q true H1 else tt' σ H1 Q) : tOr tt tt' σ H Q := h
theorem h_tnot {Q : Bool → Hp → Prop} (h : tt σ H fun c H1 => Q (!c) H1) : tNot tt σ H Q := h
theorem h_test {Q : Bool → Hp → Prop} (h : te σ H fun x H' => ∃ k, x = .bl k ∧ Q k H') : tTest te σ H Q := h
theorem h_tB {Q : Bool → Hp → Prop} (h : te σ H fun x H' => ∃ k, x = .bl k ∧ Q k H') : tB te σ H Q := h
theorem h_bl {b : Bool} {f : Bool → Prop} (h : f b) : ∃ k, V.bl b = .bl k ∧ f k := ⟨b, rfl, h⟩
theorem h_iteT {A B : Prop} (h : A) : if true = true then A else B := by rw [if_pos rfl]; exact h
theorem h_iteF {A B : Prop} (h : B) : if false = true then A else B := by rw [if_neg Bool.false_ne_true]; exact h
theorem h_ite {b : Bool} {A B : Prop} (h1 : b = true → A) (h2 : b = false → B) : if b = true then A else B := by
  cases b
  · exact h_iteF (h2 rfl)
  · exact h_iteT (h1 rfl)
theorem h_ifE {c : TT} (h : c σ H fun b H1 => if b = true then ta σ H1 Q else tb σ H1 Q) : tIf c ta tb σ H Q := h
theorem h_nil {Q : List V → Hp → Prop} (h : Q [] H) : tNil σ H Q := h
theorem h_cons {Q : List V → Hp → Prop} (h : te σ H fun x H1 => tl σ H1 fun xs H2 => Q (x :: xs) H2) : tCons te tl σ H Q := h
theorem h_cb {f : List V → Hp → VK → Prop} (h : tl σ H fun vs H1 => f vs H1 Q) : tCB f tl σ H Q := h
theorem h_call {sp : Sp} {dvs : List V} {E : XK} (h : tl σ H fun vs H1 => sp (vs ++ dvs) H1 Q E) : tCall sp dvs E tl σ H Q := h
theorem h_callS {sp : Sp} {E : L2.St → XK} (h : tl σ H fun vs H1 => sp vs H1 Q (E σ)) : tCallS sp E tl σ H Q := h
theorem h_tup (h : tl σ H fun xs H1 => NewT xs H1 Q) : tTup tl σ H Q := h
theorem h_lst (h : tl σ H fun xs H1 => NewL xs H1 Q) : tLst tl σ H Q := h
theorem h_ixL {p : Addr} {xs : List V} (s : SqL K H p xs) (e : atI xs i = some v) (h : Q v H) : rIxL K (.ref p) (.int i) H Q := ⟨p, xs, i, v, rfl, rfl, s, e, h⟩
theorem h_ixT {p : Addr} {xs : List V} (s : SqT K H p xs) (e : atI xs i = some v) (h : Q v H) : rIxT K (.ref p) (.int i) H Q := ⟨p, xs, i, v, rfl, rfl, s, e, h⟩
end

section
variable {K : PySem.W.Frag} {σ : L2.St} {B B1 B' H H1 H' B0 H0 : Hp} {Q : VK} {W W' : List Addr} {p q : Addr} {xs ys : List V} {ds es : List D} {v : V} {d : D} {i j : Int} {te ta tb : TE}
theorem h_newL (w : Ex B H) (r : RepL K B xs ds) (h : ∀ p B' H', Stp [] B H B' H' → Rep K B' (.ref p) (.lst ds) → Q (.ref p) H') (hn : xs.length ≤ sizeLine) : NewL xs H Q :=
  ⟨hn, fun p hp => h p _ _ (Stp.new w hp) (.lst (SqL.of upd_same) (r.mono (Ex.new (w.none hp))))⟩
theorem h_newT (w : Ex B H) (r : RepL K B xs ds) (h : ∀ p B' H', Stp [] B H B' H' → Rep K B' (.ref p) (.tup ds) → Q (.ref p) H') (hn : xs.length ≤ sizeLine) : NewT xs H Q :=
  ⟨hn, fun p hp => h p _ _ (Stp.new w hp) (.tup (SqT.of upd_same) (r.mono (Ex.new (w.none hp))))⟩
theorem h_newM (w : Ex B H) (r : RepL K B xs ds) (h : ∀ p H', H p = none → Stp [] B H B H' → Mu K B H' p ds → Q (.ref p) H') (hn : xs.length ≤ sizeLine) : NewL xs H Q :=
  ⟨hn, fun p hp => h p _ hp (Stp.newM w hp) (Mu.new w hp r)⟩
theorem h_nwL (w : Ex B H) (r : RepL K B xs ds) (h : ∀ p B' H', Stp [] B H B' H' → Rep K B' (.ref p) (.lst ds) → Q (.ref p) H') : NwL xs H Q :=
  fun p hp => h p _ _ (Stp.new w hp) (.lst (SqL.of upd_same) (r.mono (Ex.new (w.none hp))))
theorem h_nwT (w : Ex B H) (r : RepL K B xs ds) (h : ∀ p B' H', Stp [] B H B' H' → Rep K B' (.ref p) (.tup ds) → Q (.ref p) H') : NwT xs H Q :=
  fun p hp => h p _ _ (Stp.new w hp) (.tup (SqT.of upd_same) (r.mono (Ex.new (w.none hp))))
theorem h_nwM (w : Ex B H) (r : RepL K B xs ds) (h : ∀ p H', H p = none → Stp [] B H B H' → Mu K B H' p ds → Q (.ref p) H') : NwL xs H Q :=
  fun p hp => h p _ hp (Stp.newM w hp) (Mu.new w hp r)
/-- what was free now was free at the entry -/
theorem Stp.nn (s : Stp W B0 H0 B H) (h : H p = none) : H0 p = none := by
  cases e : H0 p with
  | none => rfl
  | some o => obtain ⟨u, q⟩ := s.al p o e; rw [h] at q; cases q
/-- a step that writes at an object of our own -/
theorem Stp.own2 (a : Stp W B0 H0 B H) (s : Stp [p] B H B' H') (h0 : H0 p = none) : Stp W B0 H0 B' H' :=
  ⟨a.ex.trans s.ex, s.ok, fun x u hx e => s.fr x u (fun z => by
      rw [List.mem_singleton.mp z, h0] at e; cases e) (a.fr x u hx e), fun x u e => let ⟨u1, e1⟩ := a.al x u e; s.al x u1 e1, fun x u hb e => let ⟨u1, e1⟩ := a.al x u e; s.nw x u1 (a.nw x u hb e) e1⟩
theorem nm0 : p ∉ ([] : List Addr) := fun z => nomatch z
theorem nm1 (h : p ≠ q) : p ∉ [q] := fun z => h (List.mem_singleton.mp z)
theorem sub0 : ∀ x, x ∈ ([] : List Addr) → x ∈ W := fun _ z => nomatch z
/-- a list of our own is kept as it is -/
theorem Mu.keep (m : Mu K B H p ds) : ∃ B', Ex B B' ∧ (∀ q, q ≠ p → B q = none → B' q = none) ∧ (∀ W B0 H0, Stp W B0 H0 B H → Ex B0 H0 → H0 p = none → Stp W B0 H0 B' H) ∧ Rep K B' (.ref p) (.lst ds) := by
  obtain ⟨hb, xs, hp, r⟩ := m
  exact ⟨upd B p (.lst xs), Ex.new hb, fun q n e => by rw [upd_ne n]; exact e, fun W B0 H0 st w0 h0 => Stp.keep w0 st h0 hb hp, .lst (SqL.of upd_same) (r.mono (Ex.new hb))⟩
/-- a step that writes at what may be written and at objects of our own -/
theorem Stp.go (a : Stp W B0 H0 B H) (s : Stp W' B H B' H') (h : ∀ p, p ∈ W' → p ∈ W ∨ H0 p = none) : Stp W B0 H0 B' H' :=
  ⟨a.ex.trans s.ex, s.ok, fun x u hx e => s.fr x u (fun z => by
      rcases h x z with q | q
      · exact hx q
      · rw [q] at e; cases e) (a.fr x u hx e), fun x u e => let ⟨u1, e1⟩ := a.al x u e; s.al x u1 e1, fun x u hb e => let ⟨u1, e1⟩ := a.al x u e; s.nw x u1 (a.nw x u hb e) e1⟩
theorem go0 {F : Addr → Prop} : ∀ x, x ∈ ([] : List Addr) → F x := fun _ z => nomatch z
theorem go1 {F : Addr → Prop} (h : F p) : ∀ x, x ∈ [p] → F x := fun x z => by rw [List.mem_singleton.mp z]; exact h
theorem go2 {F : Addr → Prop} (h : F p) (h' : F q) : ∀ x, x ∈ [p, q] → F x := fun x z => by
  rcases List.mem_cons.mp z with e | e
  · rw [e]; exact h
  · rw [List.mem_singleton.mp e]; exact h'
theorem go3 {F : Addr → Prop} {r : Addr} (h : F p) (h' : F q) (h2 : F r) : ∀ x, x ∈ [p, q, r] → F x := fun x z => by
  rcases List.mem_cons.mp z with e | e
  · rw [e]; exact h
  · exact go2 h' h2 x e
theorem go4 {F : Addr → Prop} {r r2 : Addr} (h : F p) (h' : F q) (h2 : F r) (h3 : F r2) : ∀ x, x ∈ [p, q, r, r2] → F x := fun x z => by
  rcases List.mem_cons.mp z with e | e
  · rw [e]; exact h
  · exact go3 h' h2 h3 x e
theorem nm2 {r : Addr} (h : p ≠ q) (h' : p ≠ r) : p ∉ [q, r] := fun z => by
  rcases List.mem_cons.mp z with e | e
  · exact h e
  · exact h' (List.mem_singleton.mp e)
theorem nm3 {r r2 : Addr} (h : p ≠ q) (h' : p ≠ r) (h2 : p ≠ r2) : p ∉ [q, r, r2] := fun z => by
  rcases List.mem_cons.mp z with e | e
  · exact h e
  · exact nm2 h' h2 e
theorem nm4 {r r2 r3 : Addr} (h : p ≠ q) (h' : p ≠ r) (h2 : p ≠ r2) (h3 : p ≠ r3) : p ∉ [q, r, r2, r3] := fun z => by
  rcases List.mem_cons.mp z with e | e
  · exact h e
  · exact nm3 h' h2 h3 e
theorem Mu.kp (m : Mu K B H q es) (e : Ex B B') (k : ∀ q, q ≠ p → B q = none → B' q = none) (n : q ≠ p) : Mu K B' H q es := by
  obtain ⟨hb, xs, hp, r⟩ := m
  exact ⟨k q n hb, xs, hp, r.mono e⟩
theorem RepL.atE {α : Type} [Enc α] {l : List α} {x : α} (r : RepL K B xs (l.map enc)) (h : atI l i = some x) : ∃ v, atI xs i = some v ∧ Rep K B v (enc x) := by
  refine r.at ?_
  unfold atI at h ⊢
  rw [List.length_map]
  cases e : ixN l.length i with
  | none => rw [e] at h; cases h
  | some k =>
    rw [e] at h
    show (l.map enc)[k]? = _
    rw [List.getElem?_map, show l[k]? = some x from h]
    rfl
theorem h_pow {k : Int} (e : i ^ j.toNat = k) (c : CPow i j) (h : Q (.int k) H) : rI CPow (fun i j => .int (i ^ j.toNat)) (.int i) (.int j) H Q := ⟨i, j, rfl, rfl, c, by show Q (.int (i ^ j.toNat)) H; rw [e]; exact h⟩
instance (i j : Int) : Decidable (CPow i j) := by unfold CPow; infer_instance
instance (i j : Int) : Decidable (CMul i j) := by unfold CMul; infer_instance
instance (i j : Int) : Decidable (CDiv i j) := by unfold CDiv; infer_instance
def absI (i : Int) : Int := if i < 0 then -i else i
def b2z (b : Bool) : Int := if b then 1 else 0
theorem h_isB {a b : Bool} (h : Q (.bl (decide (a = b))) H) : rIsB (.bl a) (.bl b) H Q := ⟨a, b, rfl, rfl, h⟩
theorem h_isnotB {a b : Bool} (h : Q (.bl (!decide (a = b))) H) : rNotB (.bl a) (.bl b) H Q := ⟨a, b, rfl, rfl, h⟩
def rLenY (K : PySem.W.Frag) : List V → Hp → VK → Prop := fun xs H Q => ∃ p ys, xs = [.ref p] ∧ (SqL K H p ys ∨ SqT K H p ys) ∧ Q (.int ys.length) H
def rAbsY : List V → Hp → VK → Prop := fun xs H Q => ∃ i, xs = [.int i] ∧ Q (.int (if i < 0 then -i else i)) H
def rIntY : List V → Hp → VK → Prop := fun xs H Q => (∃ i, xs = [.int i] ∧ Q (.int i) H) ∨ ∃ k, xs = [.bl k] ∧ Q (.int (if k then 1 else 0)) H
def rStrY : List V → Hp → VK → Prop := fun xs H Q => ∃ i, xs = [.int i] ∧ i.natAbs.log2 < 1920 ∧ Q (.str (toString i)) H
def rListY (K : PySem.W.Frag) : List V → Hp → VK → Prop := fun xs H Q => ∃ p ys, xs = [.ref p] ∧ (SqL K H p ys ∨ SqT K H p ys) ∧ ∀ l, H l = none → Q (.ref l) (upd H l (.lst ys))
def rTupY (K : PySem.W.Frag) : List V → Hp → VK → Prop := fun xs H Q => ∃ p ys, xs = [.ref p] ∧ ((SqL K H p ys ∧ ∀ l, H l = none → Q (.ref l) (upd H l (.tup ys))) ∨ (SqT K H p ys ∧ Q (.ref p) H))
theorem cr_len {X : Cx} : CallR X (.builtin "len") (rLenY X.K) := call_len_seq
theorem cr_abs {X : Cx} : CallR X (.builtin "abs") rAbsY := call_abs
theorem cr_int {X : Cx} : CallR X (.type "int") rIntY := call_int1
theorem cr_str {X : Cx} : CallR X (.type "str") rStrY := call_str_int
theorem cr_list {X : Cx} : CallR X (.type "list") (rListY X.K) := call_list_of
theorem cr_tuple {X : Cx} : CallR X (.type "tuple") (rTupY X.K) := call_tuple_of
theorem h_len {α : Type} [Enc α] {l : List α} (s : SqL K H p xs) (r : RepL K B xs (l.map enc)) (h : Q (.int l.length) H) : rLenY K [V.ref p] H Q := by
  refine ⟨p, xs, rfl, .inl s, ?_⟩
  rw [show xs.length = l.length from by rw [r.length, List.length_map]]
  exact h
theorem h_lenT (s : SqT K H p xs) (r : RepL K B xs ds) (h : Q (.int ds.length) H) : rLenY K [V.ref p] H Q := by
  refine ⟨p, xs, rfl, .inr s, ?_⟩
  rw [r.length]
  exact h
theorem h_abs (h : Q (.int (absI i)) H) : rAbsY [V.int i] H Q := ⟨i, rfl, h⟩
theorem h_intB {b : Bool} (h : Q (.int (b2z b)) H) : rIntY [V.bl b] H Q := .inr ⟨b, rfl, h⟩
theorem h_intI (h : Q (.int i) H) : rIntY [V.int i] H Q := .inl ⟨i, rfl, h⟩
theorem h_str (c : i.natAbs.log2 < 1920) (h : Q (.str (toString i)) H) : rStrY [V.int i] H Q := ⟨i, rfl, c, h⟩
theorem h_listL (s : SqL K H p xs) (h : NwL xs H Q) : rListY K [V.ref p] H Q := ⟨p, xs, rfl, .inl s, h⟩
theorem h_listT (s : SqT K H p xs) (h : NwL xs H Q) : rListY K [V.ref p] H Q := ⟨p, xs, rfl, .inr s, h⟩
theorem h_tupL (s : SqL K H p xs) (h : NwT xs H Q) : rTupY K [V.ref p] H Q := ⟨p, xs, rfl, .inl ⟨s, h⟩⟩
theorem h_iteN {b : Bool} {A C : Prop} (h1 : b = false → A) (h2 : b = true → C) : if (!b) = true then A else C := by
  cases b
  · exact h_iteT (h1 rfl)
  · exact h_iteF (h2 rfl)
theorem h_iteNT {A C : Prop} (h : C) : if (!true) = true then A else C := h_iteF h
theorem h_iteNF {A C : Prop} (h : A) : if (!false) = true then A else C := h_iteT h
theorem Post.iteTn {α : Type} {m m' : Res α} {P : α → Prop} {R : Err → Prop} {c : Bool} (h : Post (if (!c) = true then m else m') P R) (hc : c = false) : Post m P R := by
  rw [hc] at h; exact h
theorem Post.iteFn {α : Type} {m m' : Res α} {P : α → Prop} {R : Err → Prop} {c : Bool} (h : Post (if (!c) = true then m else m') P R) (hc : c = true) : Post m' P R := by
  rw [hc] at h; exact h
end

/-! ### joins, loops, comprehensions, in step with the mirror -/
section
variable {K : PySem.W.Frag} {σ : L2.St} {B B1 B' H H1 H' B0 H0 : Hp} {Q : VK} {W W' : List Addr} {p q : Addr} {xs ys : List V} {ds es : List D} {v : V} {d : D} {t z tb : TS} {te : TE} {c tt : TT} {D' : Ends} {g : TG} {ti : TI}
variable {α β S R' : Type} {P : β → Prop} {R : Err → Prop}
theorem h_joinS {m : Res α} {k : α → Res β} (hP : Post (m.bind k) P R) (J : α → L2.St → Hp → Prop)
    (h1 : ∀ N : L2.St → Hp → Prop, (∀ a σ' H', J a σ' H' → Post (k a) P R → N σ' H') → Post m (fun a => Post (k a) P R) R → t { D' with nx := N } σ H)
    (h2 : ∀ a σ' H', J a σ' H' → Post (k a) P R → z D' σ' H') : tSeq t z D' σ H := h1 _ h2 hP.bind
theorem h_condJ {m : Res Bool} {k : Bool → Res β} {Qb : Bool → Hp → Prop} (hP : Post (m.bind k) P R) (J : Hp → Prop)
    (h1 : ∀ N : Bool → Hp → Prop, (∀ b H', J H' → Post (k b) P R → N b H') → Post m (fun b => Post (k b) P R) R → c σ H N)
    (h2 : ∀ b H', J H' → Post (k b) P R → Qb b H') : c σ H Qb := h1 _ h2 hP.bind
theorem h_exprJ {m : Res α} {k : α → Res β} (hP : Post (m.bind k) P R) (J : α → V → Hp → Prop)
    (h1 : ∀ N : VK, (∀ a v H', J a v H' → Post (k a) P R → N v H') → Post m (fun a => Post (k a) P R) R → te σ H N)
    (h2 : ∀ a v H', J a v H' → Post (k a) P R → Q v H') : te σ H Q := h1 _ h2 hP.bind
theorem h_gname {n : Nat} {Q : L2.St → Hp → Prop} (h : Q (σ.set n (some v)) H) : gName n v σ H Q := h
/-- behind a loop -/
def afterR (k : S → Res β) : Fl S β → Res β
  | .nx s => k s | .rt r => .ok r | .bk s => k s
/-- a join of ways of which some end the def (or the turn) -/
theorem h_joinF {m : Res (Fl S β)} {k : S → Res β} (hP : Post (m.bind (afterR k)) P R) (J : S → L2.St → Hp → Prop)
    (h1 : ∀ (N : L2.St → Hp → Prop) (T : Fl S β → Prop), (∀ a σ' H', J a σ' H' → T (.nx a) → N σ' H') → (∀ r, T (.rt r) → P r) → Post m T R → t { D' with nx := N } σ H)
    (h2 : ∀ a σ' H', J a σ' H' → Post (k a) P R → z D' σ' H') : tSeq t z D' σ H :=
  h1 _ (fun a => Post (afterR k a) P R) (fun a σ' H' j q => h2 a σ' H' j q) (fun _ q => (q : Post (.ok _) P R).ok) hP.bind
/-- what a turn hands on -/
def turnR (l : List α) (f : α → S → Res (Fl S R')) (i : Nat) (P : Fl S R' → Prop) (R : Err → Prop) : Fl S R' → Prop
  | .nx s => Post (forR (l.drop i) s f) P R | .rt r => P (.rt r) | .bk s => P (.bk s)
theorem Post.turn {l : List α} {i : Nat} {s : S} {f : α → S → Res (Fl S R')} {P : Fl S R' → Prop} {x : α} (h : Post (forR (l.drop i) s f) P R) (hx : l[i]? = some x) : Post (f x s) (turnR l f (i + 1) P R) R :=
  (Post.forS h hx).mono (fun r q => by cases r <;> exact q) fun _ q => q

theorem h_forE (h : te σ H fun x H1 => tFor (iList K (tC x)) g tb D' σ H1) : tFor (iList K te) g tb D' σ H := h
theorem h_forL [Enc α] {l : List α} {s0 : S} {f : α → S → Res (Fl S β)} {k : S → Res β} (hP : Post ((forR l s0 f).bind (afterR k)) P R) (hs : SqL K H p xs) (hr : RepL K B xs (l.map enc))
    (J : S → L2.St → Hp → Prop) (h0 : J s0 σ H) (hl : ∀ s σ' H', J s σ' H' → SqL K H' p xs)
    (hb : ∀ (N : L2.St → Hp → Prop) (T : Fl S β → Prop) (x : α) v s σ' H', J s σ' H' → Rep K B v (enc x) → (∀ s' σ2 H2, J s' σ2 H2 → T (.nx s') → N σ2 H2) → (∀ r, T (.rt r) → P r) → (∀ s' σ2 H2, J s' σ2 H2 → T (.bk s') → D'.nx σ2 H2) → Post (f x s) T R →
      g v σ' H' fun σ2 H2 => tb { D' with nx := N, ct := N, bk := D'.nx } σ2 H2)
    (hd : ∀ s σ' H', J s σ' H' → Post (k s) P R → D'.nx σ' H') : tFor (iList K (tC (.ref p))) g tb D' σ H := by
  refine ⟨p, rfl, ⟨xs, hs⟩, for_list (K := K) (a := p) (xs := xs) (fun i σ' H' => ∃ s, J s σ' H' ∧ Post (forR (l.drop i) s f) (fun a => Post (afterR k a) P R) R) ⟨s0, h0, hP.bind⟩ (fun i σ' H' _ ⟨s, j, _⟩ => hl s σ' H' j) ?_ ?_⟩
  · rintro i y σ' H' hi ⟨s, j, q⟩
    obtain ⟨x, hx⟩ : ∃ x, l[i]? = some x := by
      have h1 := (List.getElem?_eq_some_iff.mp hi).1
      rw [hr.length, List.length_map] at h1
      exact ⟨l[i], List.getElem?_eq_getElem h1⟩
    obtain ⟨u, hu, ru⟩ := hr.get (i := i) (d := enc x) (by rw [List.getElem?_map, hx]; rfl)
    rw [hi] at hu; cases hu
    exact hb _ _ x y s σ' H' j ru (fun s' σ2 H2 j2 t2 => ⟨s', j2, t2⟩) (fun r t2 => (t2 : Post (.ok r) P R).ok) (fun s' σ2 H2 j2 t2 => hd s' σ2 H2 j2 t2) (q.turn hx)
  · rintro σ' H' ⟨s, j, q⟩
    exact hd s σ' H' j (q.forN (by rw [hr.length, List.length_map]; exact Nat.le_refl _))
theorem h_forTE (h : te σ H fun x H1 => tFor (iTup K (tC x)) g tb D' σ H1) : tFor (iTup K te) g tb D' σ H := h
theorem h_forT [Enc α] {l : List α} {s0 : S} {f : α → S → Res (Fl S β)} {k : S → Res β} (hP : Post ((forR l s0 f).bind (afterR k)) P R) (hs : SqT K H p xs) (hr : RepL K B xs (l.map enc))
    (J : S → L2.St → Hp → Prop) (h0 : J s0 σ H) (hl : ∀ s σ' H', J s σ' H' → SqT K H' p xs)
    (hb : ∀ (N : L2.St → Hp → Prop) (T : Fl S β → Prop) (x : α) v s σ' H', J s σ' H' → Rep K B v (enc x) → (∀ s' σ2 H2, J s' σ2 H2 → T (.nx s') → N σ2 H2) → (∀ r, T (.rt r) → P r) → (∀ s' σ2 H2, J s' σ2 H2 → T (.bk s') → D'.nx σ2 H2) → Post (f x s) T R →
      g v σ' H' fun σ2 H2 => tb { D' with nx := N, ct := N, bk := D'.nx } σ2 H2)
    (hd : ∀ s σ' H', J s σ' H' → Post (k s) P R → D'.nx σ' H') : tFor (iTup K (tC (.ref p))) g tb D' σ H := by
  refine ⟨p, rfl, ⟨xs, hs⟩, for_tup (K := K) (a := p) (xs := xs) (fun i σ' H' => ∃ s, J s σ' H' ∧ Post (forR (l.drop i) s f) (fun a => Post (afterR k a) P R) R) ⟨s0, h0, hP.bind⟩ (fun i σ' H' _ ⟨s, j, _⟩ => hl s σ' H' j) ?_ ?_⟩
  · rintro i y σ' H' hi ⟨s, j, q⟩
    obtain ⟨x, hx⟩ : ∃ x, l[i]? = some x := by
      have h1 := (List.getElem?_eq_some_iff.mp hi).1
      rw [hr.length, List.length_map] at h1
      exact ⟨l[i], List.getElem?_eq_getElem h1⟩
    obtain ⟨u, hu, ru⟩ := hr.get (i := i) (d := enc x) (by rw [List.getElem?_map, hx]; rfl)
    rw [hi] at hu; cases hu
    exact hb _ _ x y s σ' H' j ru (fun s' σ2 H2 j2 t2 => ⟨s', j2, t2⟩) (fun r t2 => (t2 : Post (.ok r) P R).ok) (fun s' σ2 H2 j2 t2 => hd s' σ2 H2 j2 t2) (q.turn hx)
  · rintro σ' H' ⟨s, j, q⟩
    exact hd s σ' H' j (q.forN (by rw [hr.length, List.length_map]; exact Nat.le_refl _))
/-- the ints from lo on, below hi -/
def rngI (lo hi : Int) : List Int := (List.range (hi - lo).toNat).map fun (i : Nat) => lo + (i : Int)
theorem rngI_get {lo hi : Int} {i : Nat} (h : i < (hi - lo).toNat) : (rngI lo hi)[i]? = some (lo + (i : Int)) := by
  unfold rngI
  rw [List.getElem?_map, List.getElem?_range h]
  rfl
theorem rngI_len {lo hi : Int} : (rngI lo hi).length = (hi - lo).toNat := by
  unfold rngI
  rw [List.length_map, List.length_range]
def Rng1 (vs : List V) (g : TG) (tb : TS) (D' : Ends) (σ : L2.St) (H : Hp) : Prop := tFor (iRng1 (fun _ H Q => Q vs H)) g tb D' σ H
def Rng2 (vs : List V) (g : TG) (tb : TS) (D' : Ends) (σ : L2.St) (H : Hp) : Prop := tFor (iRng2 (fun _ H Q => Q vs H)) g tb D' σ H
theorem h_rng1 {ta : TA} (h : ta σ H fun vs H1 => Rng1 vs g tb D' σ H1) : tFor (iRng1 ta) g tb D' σ H := h
theorem h_rng2 {ta : TA} (h : ta σ H fun vs H1 => Rng2 vs g tb D' σ H1) : tFor (iRng2 ta) g tb D' σ H := h
theorem forRng {lo hi : Int} {s0 : S} {f : Int → S → Res (Fl S β)} {k : S → Res β} (hP : Post ((forR (rngI lo hi) s0 f).bind (afterR k)) P R)
    (J : S → L2.St → Hp → Prop) (h0 : J s0 σ H)
    (hb : ∀ (N : L2.St → Hp → Prop) (T : Fl S β → Prop) (x : Int) s σ' H', J s σ' H' → lo ≤ x → x < hi → (∀ s' σ2 H2, J s' σ2 H2 → T (.nx s') → N σ2 H2) → (∀ r, T (.rt r) → P r) → (∀ s' σ2 H2, J s' σ2 H2 → T (.bk s') → D'.nx σ2 H2) → Post (f x s) T R →
      g (.int x) σ' H' fun σ2 H2 => tb { D' with nx := N, ct := N, bk := D'.nx } σ2 H2)
    (hd : ∀ s σ' H', J s σ' H' → Post (k s) P R → D'.nx σ' H') :
    ∃ W : Nat → Nat → L2.St → Hp → Prop, (∃ m, W 0 m σ H) ∧ ∀ i m σ H, W i m σ H →
      ((Itr lo (hi - lo).toNat).stop i H ∧ D'.nx σ H) ∨ ((Itr lo (hi - lo).toNat).go i H ∧ ∃ N : L2.St → Hp → Prop, (∀ σ' H', N σ' H' → ∃ m', m' < m ∧ W (i + 1) m' σ' H') ∧ ∀ x H', (Itr lo (hi - lo).toNat).yld i H x H' → g x σ H' fun σ2 H2 => tb { D' with nx := N, ct := N, bk := D'.nx } σ2 H2) := by
  refine for_range (lo := lo) (n := (hi - lo).toNat) (fun i σ' H' => ∃ s, J s σ' H' ∧ Post (forR ((rngI lo hi).drop i) s f) (fun a => Post (afterR k a) P R) R) ⟨s0, h0, hP.bind⟩ ?_ ?_
  · rintro i σ' H' hi' ⟨s, j, q⟩
    exact hb _ _ (lo + (i : Int)) s σ' H' j (by omega) (by omega) (fun s' σ2 H2 j2 t2 => ⟨s', j2, t2⟩) (fun r t2 => (t2 : Post (.ok r) P R).ok) (fun s' σ2 H2 j2 t2 => hd s' σ2 H2 j2 t2) (q.turn (rngI_get hi'))
  · rintro σ' H' ⟨s, j, q⟩
    exact hd s σ' H' j (q.forN (by rw [rngI_len]; exact Nat.le_refl _))
theorem h_forR1 {hi : Int} {s0 : S} {f : Int → S → Res (Fl S β)} {k : S → Res β} (hP : Post ((forR (rngI 0 hi) s0 f).bind (afterR k)) P R) (hz : -(2 ^ 62) ≤ hi ∧ hi < 2 ^ 62)
    (J : S → L2.St → Hp → Prop) (h0 : J s0 σ H)
    (hb : ∀ (N : L2.St → Hp → Prop) (T : Fl S β → Prop) (x : Int) s σ' H', J s σ' H' → 0 ≤ x → x < hi → (∀ s' σ2 H2, J s' σ2 H2 → T (.nx s') → N σ2 H2) → (∀ r, T (.rt r) → P r) → (∀ s' σ2 H2, J s' σ2 H2 → T (.bk s') → D'.nx σ2 H2) → Post (f x s) T R →
      g (.int x) σ' H' fun σ2 H2 => tb { D' with nx := N, ct := N, bk := D'.nx } σ2 H2)
    (hd : ∀ s σ' H', J s σ' H' → Post (k s) P R → D'.nx σ' H') : Rng1 [.int hi] g tb D' σ H := by
  have q := forRng hP J h0 hb hd
  rw [Int.sub_zero] at q
  exact ⟨hi, rfl, hz.1, hz.2, q⟩
theorem h_forR2 {lo hi : Int} {s0 : S} {f : Int → S → Res (Fl S β)} {k : S → Res β} (hP : Post ((forR (rngI lo hi) s0 f).bind (afterR k)) P R) (hz : (-(2 ^ 62) ≤ lo ∧ lo < 2 ^ 62) ∧ -(2 ^ 62) ≤ hi ∧ hi < 2 ^ 62)
    (J : S → L2.St → Hp → Prop) (h0 : J s0 σ H)
    (hb : ∀ (N : L2.St → Hp → Prop) (T : Fl S β → Prop) (x : Int) s σ' H', J s σ' H' → lo ≤ x → x < hi → (∀ s' σ2 H2, J s' σ2 H2 → T (.nx s') → N σ2 H2) → (∀ r, T (.rt r) → P r) → (∀ s' σ2 H2, J s' σ2 H2 → T (.bk s') → D'.nx σ2 H2) → Post (f x s) T R →
      g (.int x) σ' H' fun σ2 H2 => tb { D' with nx := N, ct := N, bk := D'.nx } σ2 H2)
    (hd : ∀ s σ' H', J s σ' H' → Post (k s) P R → D'.nx σ' H') : Rng2 [.int lo, .int hi] g tb D' σ H :=
  ⟨lo, hi, rfl, ⟨hz.1.1, hz.1.2, hz.2.1, hz.2.2⟩, forRng hP J h0 hb hd⟩

/-! comprehensions -/
def compL : List α → S → (α → S → Res (Option R' × S)) → Res (List R' × S)
  | [], s, _ => .ok ([], s)
  | x :: xs, s, f => (f x s).bind fun r => (compL xs r.2 f).bind fun q => .ok (match r.1 with | some b => b :: q.1 | none => q.1, q.2)
def compR (l : List α) (s : S) (f : α → S → Res (Option R' × S)) : Res (List R' × S) := guardR (l.length ≤ 1000000) (compL l s f)
def compT (l : List α) (f : α → S → Res (Option R' × S)) (k : List R' × S → Res β) (acc : List R') (P : β → Prop) (R : Err → Prop) : Option R' × S → Prop
  | (some b, s) => Post ((compL l s f).bind fun q => k (acc ++ [b] ++ q.1, q.2)) P R
  | (none, s) => Post ((compL l s f).bind fun q => k (acc ++ q.1, q.2)) P R
theorem Post.compS {l : List α} {i : Nat} {s : S} {f : α → S → Res (Option R' × S)} {k : List R' × S → Res β} {acc : List R'} {x : α} (h : Post ((compL (l.drop i) s f).bind fun q => k (acc ++ q.1, q.2)) P R) (hx : l[i]? = some x) :
    Post (f x s) (compT (l.drop (i + 1)) f k acc P R) R := by
  obtain ⟨hi, e⟩ := List.getElem?_eq_some_iff.mp hx
  rw [List.drop_eq_getElem_cons hi, e] at h
  have h2 := (Post.bind (Post.bind h))
  refine h2.mono (fun r q => ?_) fun _ q => q
  obtain ⟨o, s'⟩ := r
  cases o with
  | some b =>
    show Post ((compL (l.drop (i + 1)) s' f).bind fun q => k (acc ++ [b] ++ q.1, q.2)) P R
    have q1 : Post ((compL (l.drop (i + 1)) s' f).bind fun q => .ok (b :: q.1, q.2)) (fun a => Post (k (acc ++ a.1, a.2)) P R) R := q
    generalize compL (l.drop (i + 1)) s' f = m at q1 ⊢
    cases m with
    | ok a =>
      have q2 : Post (k (acc ++ (b :: a.1), a.2)) P R := q1.ok
      show Post (k (acc ++ [b] ++ a.1, a.2)) P R
      rw [List.append_assoc]
      exact q2
    | err e => exact ⟨q1.h0⟩
    | stuck => exact ⟨q1.h0⟩
  | none =>
    show Post ((compL (l.drop (i + 1)) s' f).bind fun q => k (acc ++ q.1, q.2)) P R
    have q1 : Post ((compL (l.drop (i + 1)) s' f).bind fun q => .ok (q.1, q.2)) (fun a => Post (k (acc ++ a.1, a.2)) P R) R := q
    generalize compL (l.drop (i + 1)) s' f = m at q1 ⊢
    cases m
    · exact q1.ok
    · exact ⟨q1.h0⟩
    · exact ⟨q1.h0⟩
theorem h_app1 [Enc α] {l : List α} {b : α} {y : V} {N : Hp → Prop} (w : Ex B H) (m : Mu K B H p (l.map enc)) (r : Rep K B y (enc b)) (hz : l.length < sizeLine) (h : ∀ H', Stp [p] B H B H' → Mu K B H' p ((l ++ [b]).map enc) → N H') :
    ∃ acc, H p = some (.lst acc) ∧ acc.length < sizeLine ∧ N (upd H p (.lst (acc ++ [y]))) := by
  obtain ⟨hb, xs, hp, hr⟩ := id m
  refine ⟨xs, hp, by rw [hr.length, List.length_map]; exact hz, ?_⟩
  have rl : RepL K B (xs ++ [y]) ((l ++ [b]).map enc) := by
    rw [List.map_append]
    exact hr.append (.cons r .nil)
  obtain ⟨s, m'⟩ := Stp.mut w m rl
  exact h _ s m'
def LcL (K : PySem.W.Frag) (v : V) (g : TG) (tt : TT) (te : TE) (vs : List Nat) (σ : L2.St) (H : Hp) (Q : VK) : Prop := tLc (iList K (tC v)) g tt te vs σ H Q
theorem h_lcE {vs : List Nat} {tl : TE} (h : tl σ H fun x H1 => LcL K x g tt te vs σ H1 Q) : tLc (iList K tl) g tt te vs σ H Q := h
def LcT (σ : L2.St) (vs : List Nat) (tt : TT) (te : TE) (Dl : Addr) (N : Hp → Prop) : L2.St → Hp → Prop := fun σ2 H2 => wipe σ2 vs = wipe σ vs ∧ tt σ2 H2 fun b H3 =>
  if b = true then te σ2 H3 fun y H4 => ∃ acc, H4 Dl = some (.lst acc) ∧ acc.length < sizeLine ∧ N (upd H4 Dl (.lst (acc ++ [y]))) else N H3
def App (Dl : Addr) (N : Hp → Prop) : VK := fun y H4 => ∃ acc, H4 Dl = some (.lst acc) ∧ acc.length < sizeLine ∧ N (upd H4 Dl (.lst (acc ++ [y])))
theorem h_lcT {vs : List Nat} {Dl : Addr} {N : Hp → Prop} {σ2 : L2.St} (e : wipe σ2 vs = wipe σ vs) (h : te σ2 H (App Dl N)) : LcT σ vs tYes te Dl N σ2 H := ⟨e, h⟩
theorem h_lcI {vs : List Nat} {Dl : Addr} {N : Hp → Prop} {σ2 : L2.St} (e : wipe σ2 vs = wipe σ vs) (h : tt σ2 H fun b H3 => if b = true then te σ2 H3 (App Dl N) else N H3) : LcT σ vs tt te Dl N σ2 H := ⟨e, h⟩
theorem h_app [Enc α] {l : List α} {b : α} {y : V} {N : Hp → Prop} (w : Ex B H) (m : Mu K B H p (l.map enc)) (r : Rep K B y (enc b)) (hz : l.length < sizeLine) (h : ∀ H', Stp [p] B H B H' → Mu K B H' p ((l ++ [b]).map enc) → N H') : App p N y H := h_app1 w m r hz h
theorem h_lcL [Enc α] {l : List α} {s0 : S} {f : α → S → Res (Option R' × S)} {k : List R' × S → Res β} {vs : List Nat} (hP : Post ((compR l s0 f).bind k) P R) (hs : SqL K H p xs) (hr : RepL K B xs (l.map enc))
    (J : Addr → List R' → S → Hp → Prop) (h0 : ∀ Dl, H Dl = none → J Dl [] s0 (upd H Dl (.lst []))) (hl : ∀ Dl acc s H', J Dl acc s H' → SqL K H' p xs)
    (hb : ∀ (Dl : Addr) (N : Hp → Prop) (T : Option R' × S → Prop) (x : α) v acc s H', J Dl acc s H' → Rep K B v (enc x) → acc.length < sizeLine → (∀ b s' H2, J Dl (acc ++ [b]) s' H2 → T (some b, s') → N H2) → (∀ s' H2, J Dl acc s' H2 → T (none, s') → N H2) → Post (f x s) T R →
      g v (wipe σ vs) H' (LcT σ vs tt te Dl N))
    (hd : ∀ Dl acc s H', J Dl acc s H' → Post (k (acc, s)) P R → Q (.ref Dl) H') : LcL K (.ref p) g tt te vs σ H Q := by
  refine ⟨p, rfl, ⟨xs, hs⟩, fun Dl hD => ?_⟩
  unfold compR at hP
  have hz : l.length ≤ 1000000 := by
    by_cases c : l.length ≤ 1000000
    · exact c
    · unfold guardR at hP; rw [if_neg c] at hP; exact hP.elim
  unfold guardR at hP
  rw [if_pos hz] at hP
  refine lc_list (K := K) (a := p) (xs := xs) (fun i H' => ∃ acc s, J Dl acc s H' ∧ acc.length ≤ i ∧ Post ((compL (l.drop i) s f).bind fun q => k (acc ++ q.1, q.2)) P R) ⟨[], s0, h0 Dl hD, Nat.le_refl _, hP⟩ (fun i H' _ ⟨acc, s, j, _⟩ => hl Dl acc s H' j) ?_ ?_
  · rintro i y H' hi ⟨acc, s, j, hn, q⟩
    have h1 := (List.getElem?_eq_some_iff.mp hi).1
    rw [hr.length, List.length_map] at h1
    obtain ⟨x, hx⟩ : ∃ x, l[i]? = some x := ⟨l[i], List.getElem?_eq_getElem h1⟩
    obtain ⟨u, hu, ru⟩ := hr.get (i := i) (d := enc x) (by rw [List.getElem?_map, hx]; rfl)
    rw [hi] at hu; cases hu
    exact hb Dl _ _ x y acc s H' j ru (Nat.lt_of_le_of_lt (Nat.le_trans hn (Nat.le_trans (Nat.le_of_lt h1) hz)) (by decide)) (fun b s' H2 j2 t2 => ⟨acc ++ [b], s', j2, by rw [List.length_append]; exact Nat.succ_le_succ hn, t2⟩) (fun s' H2 j2 t2 => ⟨acc, s', j2, Nat.le_succ_of_le hn, t2⟩) (q.compS hx)
  · rintro H' ⟨acc, s, j, _, q⟩
    rw [hr.length, List.length_map, List.drop_eq_nil_of_le (Nat.le_refl _)] at q
    have q2 : Post (k (acc ++ [], s)) P R := q
    rw [List.append_nil] at q2
    exact hd Dl acc s H' j q2
def LcR1 (ws : List V) (g : TG) (tt : TT) (te : TE) (vs : List Nat) (σ : L2.St) (H : Hp) (Q : VK) : Prop := tLc (iRng1 (fun _ H Q => Q ws H)) g tt te vs σ H Q
theorem h_lcR1E {vs : List Nat} {ta : TA} (h : ta σ H fun ws H1 => LcR1 ws g tt te vs σ H1 Q) : tLc (iRng1 ta) g tt te vs σ H Q := h
theorem h_lcR1 {hi : Int} {s0 : S} {f : Int → S → Res (Option R' × S)} {k : List R' × S → Res β} {vs : List Nat} (hP : Post ((compR (rngI 0 hi) s0 f).bind k) P R)
    (J : Addr → List R' → S → Hp → Prop) (h0 : ∀ Dl, H Dl = none → J Dl [] s0 (upd H Dl (.lst [])))
    (hb : ∀ (Dl : Addr) (N : Hp → Prop) (T : Option R' × S → Prop) (x : Int) acc s H', J Dl acc s H' → 0 ≤ x → x < hi → acc.length < sizeLine → (∀ b s' H2, J Dl (acc ++ [b]) s' H2 → T (some b, s') → N H2) → (∀ s' H2, J Dl acc s' H2 → T (none, s') → N H2) → Post (f x s) T R →
      g (.int x) (wipe σ vs) H' (LcT σ vs tt te Dl N))
    (hd : ∀ Dl acc s H', J Dl acc s H' → Post (k (acc, s)) P R → Q (.ref Dl) H') (hlo : -(2 ^ 62) ≤ hi) : LcR1 [.int hi] g tt te vs σ H Q := by
  unfold compR at hP
  have hz : (rngI 0 hi).length ≤ 1000000 := by
    by_cases c : (rngI 0 hi).length ≤ 1000000
    · exact c
    · unfold guardR at hP; rw [if_neg c] at hP; exact hP.elim
  unfold guardR at hP
  rw [if_pos hz] at hP
  rw [rngI_len, Int.sub_zero] at hz
  refine ⟨hi, rfl, hlo, by omega, fun Dl hD => ?_⟩
  refine lc_range (lo := 0) (n := hi.toNat) (fun i H' => ∃ acc s, J Dl acc s H' ∧ acc.length ≤ i ∧ Post ((compL ((rngI 0 hi).drop i) s f).bind fun q => k (acc ++ q.1, q.2)) P R) ⟨[], s0, h0 Dl hD, Nat.le_refl _, hP⟩ ?_ ?_
  · rintro i H' hi' ⟨acc, s, j, hn, q⟩
    have hx := rngI_get (lo := 0) (hi := hi) (i := i) (by omega)
    have e : (0 : Int) + (i : Int) = (i : Int) := Int.zero_add _
    exact hb Dl _ _ (0 + (i : Int)) acc s H' j (by omega) (by omega) (Nat.lt_of_le_of_lt (Nat.le_trans hn (Nat.le_trans (Nat.le_of_lt hi') hz)) (by decide)) (fun b s' H2 j2 t2 => ⟨acc ++ [b], s', j2, by rw [List.length_append]; exact Nat.succ_le_succ hn, t2⟩) (fun s' H2 j2 t2 => ⟨acc, s', j2, Nat.le_succ_of_le hn, t2⟩) (q.compS hx)
  · rintro H' ⟨acc, s, j, _, q⟩
    rw [List.drop_eq_nil_of_le (by rw [rngI_len]; omega)] at q
    have q2 : Post (k (acc ++ [], s)) P R := q
    rw [List.append_nil] at q2
    exact hd Dl acc s H' j q2
end

section
variable {K : PySem.W.Frag} {B B' H H' B0 H0 : Hp} {W : List Addr} {p : Addr} {xs : List V} {ds : List D} {v : V} {a b c d : L2.St → Hp → Prop} {rt : VK} {σ : L2.St}
theorem Rep.sqB (r : Rep K B v (.lst ds)) : ∃ p xs, v = .ref p ∧ SqL K B p xs ∧ RepL K B xs ds := by
  cases r with
  | @lst p xs _ hp r => exact ⟨p, xs, rfl, hp, r⟩
theorem Rep.stB (r : Rep K B v (.tup ds)) : ∃ p xs, v = .ref p ∧ SqT K B p xs ∧ RepL K B xs ds := by
  cases r with
  | @tup p xs _ hp r => exact ⟨p, xs, rfl, hp, r⟩
theorem Bor.sq0 (m : Bor K B0 H0 W v ds) : ∃ p xs, v = .ref p ∧ RepL K B0 xs ds ∧ ∀ B' H', Stp W B0 H0 B' H' → SqL K H' p xs := by
  obtain ⟨p, xs, e, hp, r⟩ := m
  refine ⟨p, xs, e, r, fun B' H' s => ?_⟩
  rcases hp with ⟨hp | ⟨o, hp⟩, hw⟩ | hp
  · exact .inl (.inl (s.fr p _ hw hp))
  · exact .inl (.inr ⟨o, s.fr p _ hw hp⟩)
  · exact .inr hp
theorem h_ct (h : d σ H) : tCont (Ends.mk a rt b d) σ H := h
theorem h_bk (h : b σ H) : tBreak (Ends.mk a rt b d) σ H := h
end

/-! ### lists that change -/
def setR {α : Type} (l : List α) (i : Int) (x : α) : Res (List α) := match ixN l.length i with | some j => .ok (l.set j x) | none => .stuck
def Bm (K : PySem.W.Frag) (T : String) (r : V → List V → Hp → VK → Prop) (t : TA) (σ : L2.St) (x : V) (H : Hp) (Q : VK) : Prop := tyV K T x H ∧ t σ H fun xs H2 => r x xs H2 Q
def Bm0 (K : PySem.W.Frag) (T : String) (r : V → List V → Hp → VK → Prop) (σ : L2.St) (x : V) (H : Hp) (Q : VK) : Prop := tyV K T x H ∧ r x [] H Q
section
variable {K : PySem.W.Frag} {σ : L2.St} {B H : Hp} {Q : VK} {p q : Addr} {v y : V} {te to ti : TE} {t : TA} {D' : Ends} {z : TS} {i : Int} {r : V → List V → Hp → VK → Prop}
theorem h_bm {T : String} (h : to σ H fun x H1 => Bm K T r t σ x H1 Q) : tBM K T r to t σ H Q := h
theorem h_bm0 {T : String} (h : to σ H fun x H1 => Bm0 K T r σ x H1 Q) : tBM0 K T r to σ H Q := h
theorem Mu.tyV {ds : List D} (m : Mu K B H p ds) : tyV K "list" (.ref p) H := by
  obtain ⟨hb, xs, hp, _⟩ := m
  exact .inl ⟨rfl, _, .inl (.inl hp)⟩
theorem h_bmL {ds : List D} (m : Mu K B H p ds) (h : t σ H fun xs H2 => r (.ref p) xs H2 Q) : Bm K "list" r t σ (.ref p) H Q := ⟨m.tyV, h⟩
theorem h_bmL0 {ds : List D} (m : Mu K B H p ds) (h : r (.ref p) [] H Q) : Bm0 K "list" r σ (.ref p) H Q := ⟨m.tyV, h⟩
theorem h_append {α : Type} [Enc α] {l : List α} {b : α} (w : Ex B H) (m : Mu K B H p (l.map enc)) (ry : Rep K B y (enc b)) (hz : l.length < 1000000) (h : ∀ H', Stp [p] B H B H' → Mu K B H' p ((l ++ [b]).map enc) → Q .non H') : rAppend (.ref p) [y] H Q := by
  obtain ⟨hb, xs, hp, hr⟩ := id m
  refine ⟨p, xs, y, rfl, rfl, hp, by rw [hr.length, List.length_map]; exact Nat.lt_of_lt_of_le hz (by decide), ?_⟩
  have rl : RepL K B (xs ++ [y]) ((l ++ [b]).map enc) := by
    rw [List.map_append]
    exact hr.append (.cons ry .nil)
  obtain ⟨s, m'⟩ := Stp.mut w m rl
  exact h _ s m'
theorem h_extend {α : Type} [Enc α] {l l2 : List α} (w : Ex B H) (m : Mu K B H p (l.map enc)) (m2 : Mu K B H q (l2.map enc)) (hz : l.length + l2.length ≤ 1000000) (h : ∀ H', Stp [p] B H B H' → Mu K B H' p ((l ++ l2).map enc) → Q .non H') : rExtend (.ref p) [.ref q] H Q := by
  obtain ⟨hb, xs, hp, hr⟩ := id m
  obtain ⟨hb2, ys, hp2, hr2⟩ := id m2
  refine ⟨p, q, xs, ys, rfl, rfl, hp, hp2, by rw [hr.length, hr2.length, List.length_map, List.length_map]; exact Nat.le_trans hz (by decide), ?_⟩
  have rl : RepL K B (xs ++ ys) ((l ++ l2).map enc) := by
    rw [List.map_append]
    exact hr.append hr2
  obtain ⟨s, m'⟩ := Stp.mut w m rl
  exact h _ s m'
theorem RepL.set : ∀ {vs : List V} {ds : List D} {j : Nat} {d : D}, RepL K B vs ds → Rep K B v d → RepL K B (vs.set j v) (ds.set j d)
  | _, _, _, _, .nil, _ => .nil
  | _, _, 0, _, .cons _ t, r => .cons r t
  | _, _, j + 1, _, .cons h t, r => .cons h (RepL.set t r)
theorem Post.set {α β : Type} {l : List α} {x : α} {k : List α → Res β} {P : β → Prop} {R : Err → Prop} (h : Post ((setR l i x).bind k) P R) : ∃ j, ixN l.length i = some j ∧ Post (k (l.set j x)) P R := by
  unfold setR at h
  cases e : ixN l.length i with
  | none => rw [e] at h; exact h.elim
  | some j => rw [e] at h; exact ⟨j, rfl, h⟩
def SubS (K : PySem.W.Frag) (to ti : TE) (σ : L2.St) (v : V) (H : Hp) (N : L2.St → Hp → Prop) : Prop := gSub to ti rSetL v σ H N
theorem h_sub {N : L2.St → Hp → Prop} (h : to σ H fun o H1 => ti σ H1 fun i H2 => rSetL o i v H2 fun H3 => N σ H3) : gSub to ti rSetL v σ H N := h
theorem h_asg {g : TG} (h : te σ H fun x H1 => g x σ H1 D'.nx) : tAsg te g D' σ H := h
theorem h_setL {α : Type} [Enc α] {l : List α} {b : α} {N : Hp → Prop} {j : Nat} (w : Ex B H) (m : Mu K B H p (l.map enc)) (ry : Rep K B v (enc b)) (hj : ixN l.length i = some j) (h : ∀ H', Stp [p] B H B H' → Mu K B H' p ((l.set j b).map enc) → N H') : rSetL (.ref p) (.int i) v H N := by
  obtain ⟨hb, xs, hp, hr⟩ := id m
  refine ⟨p, xs, i, j, rfl, rfl, hp, by rw [hr.length, List.length_map]; exact hj, ?_⟩
  have rl : RepL K B (xs.set j v) ((l.set j b).map enc) := by
    rw [List.map_set]
    exact hr.set ry
  obtain ⟨s, m'⟩ := Stp.mut w m rl
  exact h _ s m'
end

/-- a value with a name -/
def lt {α β : Type} (d : α) (k : α → Res β) : Res β := k d
theorem Post.lt {α β : Type} {d : α} {k : α → Res β} {P : β → Prop} {R : Err → Prop} (h : Post (Y.lt d k) P R) : Post (k d) P R := h

/-! ### lists put together, cut, compared; keywords alone -/
def rCatQ (K : PySem.W.Frag) : R2 := fun x y H Q => ∃ a b xs ys, x = .ref a ∧ y = .ref b ∧ SqL K H a xs ∧ SqL K H b ys ∧ xs.length + ys.length ≤ sizeLine ∧ NwL (xs ++ ys) H Q
theorem op_catQ {X : Cx} : OpR X (binaryOp .Add) (rCatQ X.K) := by
  intro pins s σ H x y v u Q I rx ry h
  obtain ⟨a, b, xs, ys, rfl, rfl, ha, hb, hz, q⟩ := h
  cases rx
  cases ry
  obtain ⟨its, r, p1, z1⟩ := I.list ha
  obtain ⟨its2, r2, p2, z2⟩ := I.list hb
  have hl1 := r.length
  have hl2 := r2.length
  obtain ⟨⟨cls, dd, data, sl⟩, ho, hc, n, hd⟩ := p1.isList
  obtain ⟨⟨cls2, dd2, data2, sl2⟩, ho2, hc2, n2, hd2⟩ := p2.isList
  simp only at hc hd hc2 hd2
  subst hc hd hc2 hd2
  have e : its.toArray ++ its2.toArray = (its ++ its2).toArray := by simp
  refine concat_meets ⟨_, ho, rfl⟩ ⟨_, ho2, rfl⟩ noFill_list_add seq_list_add PySem.F.slot_list_add PySem.F.entry_list_add (PySem.F.args_list_add_2 _ _) (list_addW a b its.toArray its2.toArray n n2 dd dd2 sl sl2 (by rw [List.size_toArray, List.size_toArray]; omega)) ⟨ho, ho2, ?_⟩
  rw [e]
  exact ⟨.ref _, _, I.lnew (t' := s.toks) (r.append r2) (by rw [List.length_append]; omega), rfl, q _ I.fresh⟩
def rSlQ (K : PySem.W.Frag) : V → Option Int → Option Int → Hp → VK → Prop := fun x lo hi H Q => ∃ a xs, x = .ref a ∧ SqL K H a xs ∧ NwL (cutV xs lo hi) H Q
theorem sl_Q {X : Cx} : SlR X (rSlQ X.K) := sl_list
/-- l[lo:hi] -/
def cutL {α : Type} (l : List α) (lo hi : Option Int) : List α := (l.drop (HT.sIx l.length 0 lo)).take (HT.sIx l.length l.length hi - HT.sIx l.length 0 lo)
mutual
/-- as the library's data -/
def pyD : D → PyData
  | .non => .none | .bl b => .bool b | .int i => .int i | .str x => .str x | .lst ds => .list (pyDs ds) | .tup ds => .tuple (pyDs ds) | .dic _ => .dict []
def pyDs : List D → List PyData
  | [] => []
  | d :: ds => pyD d :: pyDs ds
end
mutual
/-- no dict within -/
def flatD : D → Bool
  | .lst ds => flatDs ds | .tup ds => flatDs ds | .dic _ => false | _ => true
def flatDs : List D → Bool
  | [] => true
  | d :: ds => flatD d && flatDs ds
end
/-- == of data -/
def eqD (a b : D) : Bool := PyData.eqv (pyD a) (pyD b)
section
variable {K : PySem.W.Frag} {B B' H H' : Hp}
mutual
theorem Rep.dp (w : Ex B H) : ∀ {v : V} {d : D}, Rep K B v d → flatD d = true → Dp K H v (pyD d)
  | _, _, .non, _ => .non
  | _, _, .bl b, _ => .bl b
  | _, _, .int i, _ => .int i
  | _, _, .str x, _ => .str x
  | _, _, .lst h r, f => .lst (w.l h) (RepL.dp w r f)
  | _, _, .tup h r, f => .tup (w.t h) (RepL.dp w r f)
  | _, _, .dic h r, f => nomatch f
theorem RepL.dp (w : Ex B H) : ∀ {vs : List V} {ds : List D}, RepL K B vs ds → flatDs ds = true → DpAll K H vs (pyDs ds)
  | _, _, .nil, _ => .nil
  | _, _, .cons h t, f => by
    have f' : (flatD _ && flatDs _) = true := f
    rw [Bool.and_eq_true] at f'
    exact .cons (Rep.dp w h f'.1) (RepL.dp w t f'.2)
end
variable {σ : L2.St} {Q : VK} {x y v : V} {d e : D} {p q : Addr} {xs ys : List V} {i j k : Int} {tc te ta tb : TE} {lo hi : Option Int} {to tu : TO}
/-- what may be compared by == here -/
def okEq (d e : D) : Prop := flatD d = true ∧ flatD e = true ∧ SeqAt.shaped (pyD d) = true ∧ SeqAt.shaped (pyD e) = true
instance (d e : D) : Decidable (okEq d e) := by unfold okEq; infer_instance
theorem h_eqD (w : Ex B H) (rx : Rep K B x d) (ry : Rep K B y e) (o : okEq d e) (h : Q (.bl (eqD d e)) H) : rEqD K x y H Q := ⟨_, _, rx.dp w o.1, ry.dp w o.2.1, o.2.2.1, o.2.2.2, h⟩
theorem h_neD (w : Ex B H) (rx : Rep K B x d) (ry : Rep K B y e) (o : okEq d e) (h : Q (.bl (!eqD d e)) H) : rNeD K x y H Q := ⟨_, _, rx.dp w o.1, ry.dp w o.2.1, o.2.2.1, o.2.2.2, h⟩
theorem h_cat (s1 : SqL K H p xs) (s2 : SqL K H q ys) (hz : xs.length + ys.length ≤ sizeLine) (h : NwL (xs ++ ys) H Q) : rCatQ K (.ref p) (.ref q) H Q := ⟨p, q, xs, ys, rfl, rfl, s1, s2, hz, h⟩
theorem RepL.cat {α : Type} [Enc α] {l l2 : List α} (r : RepL K B xs (l.map enc)) (r2 : RepL K B ys (l2.map enc)) : RepL K B (xs ++ ys) ((l ++ l2).map enc) := by
  rw [List.map_append]; exact r.append r2
theorem RepL.take : ∀ {vs : List V} {ds : List D} (n : Nat), RepL K B vs ds → RepL K B (vs.take n) (ds.take n)
  | _, _, 0, _ => .nil
  | _, _, _ + 1, .nil => .nil
  | _, _, n + 1, .cons r t => .cons r (RepL.take n t)
theorem RepL.drop : ∀ {vs : List V} {ds : List D} (n : Nat), RepL K B vs ds → RepL K B (vs.drop n) (ds.drop n)
  | _, _, 0, r => r
  | _, _, _ + 1, .nil => .nil
  | _, _, n + 1, .cons _ t => RepL.drop n t
theorem RepL.cut {α : Type} [Enc α] {l : List α} (r : RepL K B xs (l.map enc)) (lo hi : Option Int) : RepL K B (cutV xs lo hi) ((cutL l lo hi).map enc) := by
  unfold cutV cutL
  rw [List.map_take, List.map_drop, r.length, List.length_map]
  exact (r.drop _).take _
theorem h_sl {r : V → Option Int → Option Int → Hp → VK → Prop} (h : te σ H fun x H1 => to σ H1 fun l H2 => tu σ H2 fun u H3 => r x l u H3 Q) : tSl r te to tu σ H Q := h
theorem h_part {N : Option Int → Hp → Prop} (h : te σ H fun x H1 => ∃ i, x = .int i ∧ N (some i) H1) : tPart te σ H N := h
theorem h_isI {f : Int → Prop} (h : f i) : ∃ j, V.int i = .int j ∧ f j := ⟨i, rfl, h⟩
theorem h_nopart {N : Option Int → Hp → Prop} (h : N none H) : tNoPart σ H N := h
theorem h_slQ (s : SqL K H p xs) (h : NwL (cutV xs lo hi) H Q) : rSlQ K (.ref p) lo hi H Q := ⟨p, xs, rfl, s, h⟩
theorem h_ch {g g' : Int → Int → Bool} (hc : ∀ Q : VK, Q (.int k) H → tc σ H Q) (h : Q (.bl (g i j && g' j k)) H) :
    rI0 (fun i j => .bl (g i j)) (.int i) (.int j) H (fun z H3 => ∃ c, z = .bl c ∧ (if c = true then tc σ H3 fun w' H4 => rI0 (fun i j => .bl (g' i j)) (.int j) w' H4 Q else Q (.bl false) H3)) := by
  refine ⟨i, j, rfl, rfl, g i j, rfl, ?_⟩
  cases e : g i j with
  | true =>
    refine h_iteT (hc _ ?_)
    rw [e, Bool.true_and] at h
    exact ⟨j, k, rfl, rfl, h⟩
  | false =>
    rw [e, Bool.false_and] at h
    exact h_iteF h
end
/-- f(k = v, ..) -/
def tCallK0 (sp : Sp) (gV : List V → List V) (E : XK) (tk : TA) : TE := fun σ H Q => tk σ H fun zs H2 => sp (gV zs) H2 Q E
theorem pe_callK0 {X : Cx} {CX : CXT} {k : Nat} {f : Addr} {fd : FuncData} {ps ks : List Str} {sp : Sp} {E : XK} {x : Str} {p pos : Pos} {kws : List Keyword} {tk : TA} {g : List Value → List Value → List Value} {gV : List V → List V → List V}
    (F : FnOk X.prog X.w X.K X.mg X.base CX k f fd ps sp) (hr : Room k X.A) (hg : Gl X x) (hm : X.mg x = some (.ref f)) (hk : PySem.W.keepIn X.K (.ref f) = true) (hb : KBinds X.K fd ps ks g gV) (hx : Passes CX X E)
    (hkw : PK X kws tk) (hall : (backToKw pos (keywordEach kws X.env)).all (·.1.isSome) = true := by rfl) (hks : (backToKw pos (keywordEach kws X.env)).filterMap (·.1) = ks := by rfl)
    (hdb : (x == ("__debug__" : Str)) = false := by decide)
    (hpl : ((backTo pos (starEach [] X.env)).any (·.1) || (backToKw pos (keywordEach kws X.env)).any (·.1.isNone)) = false := by rfl) :
    PE X (.Call (.Name x p) [] kws pos) (tCallK0 sp (gV []) E tk) := by
  refine ⟨fun pins s σ H Q I h => ?_⟩
  refine wpAny_Call_Name_kw (ld_glob I hg hm ?_ hdb)
  refine PySem.W.callWith_KW0 (h₀ := X.base) I.ok.mod.kin hk hall ?_ hpl
  refine thn (hkw.run pos pins s σ H _ I h) fun ws s2 ⟨zs, H2, I2, rz, q2⟩ => ⟨I2.kIn, ?_⟩
  rw [hks]
  exact run_fnk F hr hb hx I2 .nil rz q2
theorem h_callK0 {σ : L2.St} {H : Hp} {Q : VK} {sp : Sp} {gV : List V → List V} {E : XK} {tk : TA} (h : tk σ H fun zs H2 => sp (gV zs) H2 Q E) : tCallK0 sp gV E tk σ H Q := h
theorem h_callK {σ : L2.St} {H : Hp} {Q : VK} {sp : Sp} {gV : List V → List V → List V} {E : XK} {t tk : TA} (h : t σ H fun vs H1 => tk σ H1 fun zs H2 => sp (gV vs zs) H2 Q E) : tCallK sp gV E t tk σ H Q := h
theorem hu64_of {A : Around} {k : Nat} (hr : Room k A) : A.units + 64 < cLine := Nat.lt_of_le_of_lt (Nat.add_le_add_left (by decide : 64 ≤ 64) _) hr.units

/-! ### dicts as data -/
section
variable {K : PySem.W.Frag} {B H : Hp} {σ : L2.St} {Q : VK} {tk tv : TE} {v : V} {d : D} {i : Int} {p : Addr} {xs : List V}
theorem h_disp1I (hk : ∀ (H' : Hp) (Q : VK), Q (.int i) H' → tk σ H' Q) (hv : ∀ (H' : Hp) (Q : VK), Q v H' → tv σ H' Q) (w : Ex B H) (rv : Rep K B v d)
    (h : ∀ p B' H', Stp [] B H B' H' → Rep K B' (.ref p) (.dic [(.inl i, d)]) → Q (.ref p) H') : tDisp [(tk, tv)] σ H Q := fun p hp => by
  show tk σ (upd H p (.dK [])) _
  refine hk _ _ (hv _ _ ⟨upd_same, [(.inl i, v)], rfl, (by show 1 ≤ 15; decide), ?_⟩)
  rw [upd_upd]
  have hb := w.none hp
  exact h p _ _ (Stp.new w hp) (.dic upd_same (.cons (rv.mono (Ex.new hb)) .nil))
theorem h_dnew (w : Ex B H) (h : ∀ p B' H', Stp [] B H B' H' → Rep K B' (.ref p) (.dic []) → Q (.ref p) H') : tDNewK σ H Q := fun p hp => h p _ _ (Stp.new w hp) (.dic upd_same .nil)
def rDictP (K : PySem.W.Frag) : List V → Hp → VK → Prop := fun xs H Q => ∃ (a : Addr) (ps : List Addr) (kvs : List (Key × V)), xs = [.ref a] ∧ SqL K H a (ps.map V.ref) ∧ Paired (fun p kv => SqT K H p [kV kv.1, kv.2]) ps kvs ∧
    ∀ p, H p = none → Q (.ref p) (upd H p (.dK (mergeK [] kvs)))
theorem cr_dict {X : Cx} (hc : X.calm = true) : CallR X (.type "dict") (rDictP X.K) := call_dictP hc
def vD : V → D
  | .int i => .int i | .bl b => .bl b | .str x => .str x | _ => .non
/-- dict(pairs of ints), as data -/
def dictI (l : List (Tp2 Int Int)) : List (Key × D) := (mergeK [] (l.map fun t => ((Sum.inl t.a : Key), V.int t.b))).map fun kv => (kv.1, vD kv.2)
theorem putK_ints {kvs : List (Key × V)} {k : Key} {j : Int} (h : ∀ kv ∈ kvs, ∃ i, kv.2 = V.int i) : ∀ kv ∈ putK kvs k (V.int j), ∃ i, kv.2 = V.int i := by
  intro kv m
  unfold putK at m
  split at m
  · obtain ⟨q, hq, e⟩ := List.mem_map.mp m
    rw [← e]
    split
    · exact ⟨j, rfl⟩
    · exact h q hq
  · rcases List.mem_append.mp m with m | m
    · exact h kv m
    · rw [List.mem_singleton.mp m]; exact ⟨j, rfl⟩
theorem merge_ints : ∀ {l : List (Tp2 Int Int)} {acc : List (Key × V)}, (∀ kv ∈ acc, ∃ i, kv.2 = V.int i) → ∀ kv ∈ mergeK acc (l.map fun t => ((Sum.inl t.a : Key), V.int t.b)), ∃ i, kv.2 = V.int i
  | [], _, h => h
  | t :: r, acc, h => merge_ints (l := r) (putK_ints h)
theorem RepK.ints : ∀ {kvs : List (Key × V)}, (∀ kv ∈ kvs, ∃ i, kv.2 = V.int i) → RepK K B kvs (kvs.map fun kv => (kv.1, vD kv.2))
  | [], _ => .nil
  | (k, v) :: r, h => by
    obtain ⟨i, e⟩ := h (k, v) List.mem_cons_self
    have e' : v = V.int i := e
    subst e'
    exact .cons (.int i) (RepK.ints fun kv m => h kv (List.mem_cons_of_mem _ m))
theorem pairs_D (w : Ex B H) : ∀ {xs : List V} {l : List (Tp2 Int Int)}, RepL K B xs (l.map enc) → ∃ ps : List Addr, xs = ps.map V.ref ∧ Paired (fun p (kv : Key × V) => SqT K H p [kV kv.1, kv.2]) ps (l.map fun t => ((Sum.inl t.a : Key), V.int t.b))
  | [], [], _ => ⟨[], rfl, .nil⟩
  | _ :: _, [], r => nomatch r
  | [], _ :: _, r => nomatch r
  | v :: vs, t :: l, r => by
    cases r with
    | cons h q =>
      obtain ⟨ps, e, pr⟩ := pairs_D w q
      obtain ⟨p, ys, rfl, hs, hr⟩ := Rep.st w (show Rep K B v (.tup [enc t.a, enc t.b]) from h)
      cases hr with
      | cons h1 t1 =>
        cases t1 with
        | cons h2 t2 =>
          cases t2
          cases h1
          cases h2
          exact ⟨p :: ps, by rw [e]; rfl, .cons hs pr⟩
theorem h_dictP {l : List (Tp2 Int Int)} (w : Ex B H) (s : SqL K H p xs) (r : RepL K B xs (l.map enc)) (h : ∀ p B' H', Stp [] B H B' H' → Rep K B' (.ref p) (.dic (dictI l)) → Q (.ref p) H') : rDictP K [.ref p] H Q := by
  obtain ⟨ps, e, pr⟩ := pairs_D w r
  subst e
  exact ⟨p, ps, _, rfl, s, pr, fun q hq => h q _ _ (Stp.new w hq) (.dic upd_same (RepK.ints (merge_ints fun _ m => nomatch m)))⟩
end
theorem RepL.toD {K : PySem.W.Frag} {B : Hp} {α : Type} [Enc α] {xs : List V} {l : List α} (r : RepL K B xs (l.map enc)) : RepL K B xs ((l.map enc : List D).map enc) := by
  have e : (l.map enc : List D).map enc = l.map enc := List.map_id' _
  rw [e]; exact r
/-- a thing that is an int -/
def asI (d : D) : Res Int := match d with | .int i => .ok i | _ => .stuck
theorem Post.asI {β : Type} {d : D} {k : Int → Res β} {P : β → Prop} {R : Err → Prop} (h : Post ((Y.asI d).bind k) P R) : ∃ i, d = .int i ∧ Post (k i) P R := by
  cases d with
  | int i => exact ⟨i, rfl, h⟩
  | _ => exact h.elim
/-- a pair taken apart -/
def un2 {α β γ : Type} (k : α → β → γ) (p : α × β) : γ := k p.1 p.2
theorem Post.un2 {α β γ : Type} {k : α → β → Res γ} {a : α} {b : β} {P : γ → Prop} {R : Err → Prop} (h : Post (Y.un2 k (a, b)) P R) : Post (k a b) P R := h
/-- a thing that is a list | a tuple -/
def asL (d : D) : Res (List D) := match d with | .lst l => .ok l | _ => .stuck
def asT (d : D) : Res (List D) := match d with | .tup l => .ok l | _ => .stuck
theorem enc_Ds (l : List D) : (l.map enc : List D) = l := List.map_id' _
theorem Post.asL {β : Type} {d : D} {k : List D → Res β} {P : β → Prop} {R : Err → Prop} (h : Post ((Y.asL d).bind k) P R) : ∃ l : List D, d = .lst (l.map enc) ∧ Post (k l) P R := by
  cases d with
  | lst l => exact ⟨l, by rw [enc_Ds], h⟩
  | _ => exact h.elim
theorem Post.asT {β : Type} {d : D} {k : List D → Res β} {P : β → Prop} {R : Err → Prop} (h : Post ((Y.asT d).bind k) P R) : ∃ l : List D, d = .tup (l.map enc) ∧ Post (k l) P R := by
  cases d with
  | tup l => exact ⟨l, by rw [enc_Ds], h⟩
  | _ => exact h.elim
section
variable {K : PySem.W.Frag} {B H : Hp} {Q : VK} {p : Addr} {xs : List V}
theorem RepL.bools : ∀ {xs : List V} {bs : List Bool}, RepL K B xs (bs.map enc) → xs = bs.map V.bl
  | [], [], _ => rfl
  | _ :: _, [], r => nomatch r
  | [], _ :: _, r => nomatch r
  | v :: vs, b :: bs, r => by
    cases r with
    | cons h t =>
      cases h
      rw [RepL.bools t]
      rfl
theorem RepL.intsV : ∀ {xs : List V} {bs : List Int}, RepL K B xs (bs.map enc) → xs = bs.map V.int
  | [], [], _ => rfl
  | _ :: _, [], r => nomatch r
  | [], _ :: _, r => nomatch r
  | v :: vs, b :: bs, r => by
    cases r with
    | cons h t =>
      cases h
      rw [RepL.intsV t]
      rfl
theorem h_all {bs : List Bool} (s : SqL K H p xs) (r : RepL K B xs (bs.map enc)) (h : Q (.bl (bs.all id)) H) : rAll K [.ref p] H Q := ⟨p, bs, rfl, by rw [← r.bools]; exact s, h⟩
theorem h_any {bs : List Bool} (s : SqL K H p xs) (r : RepL K B xs (bs.map enc)) (h : Q (.bl (bs.any id)) H) : rAny K [.ref p] H Q := ⟨p, bs, rfl, by rw [← r.bools]; exact s, h⟩
theorem h_sum {ns : List Int} (s : SqL K H p xs) (r : RepL K B xs (ns.map enc)) (h : Q (.int ns.sum) H) : rSum K [.ref p] H Q := ⟨p, ns, rfl, by rw [← r.intsV]; exact s, h⟩
end
/-! ### the top -/
/-- the law's promise -/
def spTop (K : PySem.W.Frag) : Sp := fun vs H Q _ => ∃ (a : Addr) (ns : List Int), vs = [.ref a] ∧ ns.length ≤ 63 ∧ SqL K H a (ns.map V.int) ∧ ∀ H', Q (.bl true) H'
theorem top_of {K : PySem.W.Frag} {m : List Int → Res Bool} (hm : ∀ ns : List Int, ns.length ≤ 63 → m ns = .ok true) {vs : List V} {H : Hp} {Q : VK} {E : XK} (h : spTop K vs H Q E) :
    ∃ (B : Hp) (v : V) (a : List Int), Ex B H ∧ vs = [v] ∧ Bor K B H [] v (a.map enc) ∧ Post (m a) (fun r => Ret K [] B H (enc r) Q) (fun _ => False) := by
  obtain ⟨a, ns, e, hl, hs, k⟩ := h
  refine ⟨H, .ref a, ns, Ex.refl H, e, ⟨a, _, rfl, ?_, RepL.ints ns⟩, ?_⟩
  · rcases hs with hs | hs
    · exact .inl ⟨hs, fun z => nomatch z⟩
    · exact .inr hs
  · rw [hm ns hl]
    refine ⟨fun v B' H' st r => ?_⟩
    cases r
    exact k H'
theorem walk_top {l : PySem.W.OpenLaw} {q : Program} {loose : List Str} {XP : (Str → Option Value) → Heap → Prop} {YP : World → Heap → Prop} {d : DefRec} {K : Params → PySem.W.Frag} {x : Str} {k : Nat} (hn : l.most = some 63) (hdf : d.params.defaults = [])
    (hr : Room k callerA) (hY : ∀ (w : World) (h : Heap), YP w h → (K w.params).In h)
    (F : ∀ (w : World) (mg : Str → Option Value) (fa : Addr) (h : Heap), (K w.params).In h → h.Ns mainGlobals mg → mg d.name = some (.ref fa) →
      ∃ fd : FuncData, (∀ (s : Shared) (u : Value), BindsTo s fd ⟨[u], []⟩ [(x, u)]) ∧ ∀ base : Heap, (K w.params).In base → base.Ns mainGlobals mg → FnOk l.prog w (K w.params) mg base CX0 k fa fd [x] (spTop (K w.params))) :
    PySem.W.WalkO q loose XP YP l.row.toRowW d [] (fun f vs => PySem.call f vs) :=
  L2.walk_of (n := 63) (k := k) (x := x) (CX := fun _ => CX0) (sp := fun w => spTop (K w.params)) hn (by decide) hdf hr hY F (fun _ _ a ns hl _ hS => ⟨a, ns, rfl, hl, hS, fun _ => rfl⟩) fun _ _ _ _ _ z => z
/-- how its arguments bind by keywords -/
theorem _root_.L2.Fun.kb {K : PySem.W.Frag} {x qual : Str} {st : Stmt} {f : Addr} {fd : FuncData} {ps ks : List Str} {g : List Value → List Value → List Value} {gV : List V → List V → List V} (F : Fun K x qual st f fd)
    (h : ∀ (kV doc pm : Value) (an : Option Addr) (cdv ct : Value) (us ws : List Value), (g us ws).length = ps.length → bindArgs (PySem.W.fnOf x qual (defArgs st) (defBody st) (defScope st) .none kV doc pm an cdv ct) ⟨us, ks.zip ws⟩ = pure (ps.zip (g us ws)))
    (r : ∀ {vs : List V} {us : List Value} {zs : List V} {ws : List Value}, Vals vs us → Vals zs ws → Vals (gV vs zs) (g us ws)) : KBinds K fd ps ks g gV := by
  obtain ⟨oc, od, kV, doc, pm, an, cdv, ct, osl, rfl, lk, hcd⟩ := F.ex
  exact ⟨fun s us ws _ hl => .of_eq (h kV doc pm an cdv ct us ws hl), r⟩

/-! ### while -/
def whileR {S R : Type} : Nat → S → (S → Res (Fl S R)) → Res (Fl S R)
  | 0, _, _ => .stuck
  | n + 1, s, g => (g s).bind fun r => match r with | .nx s' => whileR n s' g | r => .ok r
section
variable {K : PySem.W.Frag} {σ : L2.St} {H : Hp} {Q : VK} {tb t : TS} {c : TT} {D' : Ends} {S β : Type} {P : β → Prop} {E : Err → Prop}
theorem h_while {n : Nat} {s0 : S} {f : S → Res (Fl S β)} {k : S → Res β} (hP : Post ((whileR n s0 f).bind (afterR k)) P E) (J : S → L2.St → Hp → Prop) (h0 : J s0 σ H)
    (hb : ∀ (N : L2.St → Hp → Prop) (C : (L2.St → Hp → Prop) → Prop) (T : Fl S β → Prop) s σ' H', J s σ' H' → C N → (∀ s' σ2 H2, J s' σ2 H2 → T (.nx s') → N σ2 H2) → (∀ r, T (.rt r) → P r) → (∀ s' σ2 H2, J s' σ2 H2 → T (.bk s') → D'.nx σ2 H2) → Post (f s) T E →
      c σ' H' fun b H1 => if b = true then ∃ N, C N ∧ tb { D' with nx := N, ct := N, bk := D'.nx } σ' H1 else D'.nx σ' H1)
    (hd : ∀ s σ' H', J s σ' H' → Post (k s) P E → D'.nx σ' H') : tWhile c tb D' σ H := by
  refine ⟨fun m σ' H' => ∃ s, J s σ' H' ∧ Post (whileR m s f) (fun a => Post (afterR k a) P E) E, ⟨n, s0, h0, hP.bind⟩, ?_⟩
  rintro m σ' H' ⟨s, j, q⟩
  cases m with
  | zero => exact Post.elim q
  | succ m =>
    refine hb (fun σ2 H2 => ∃ s', J s' σ2 H2 ∧ Post (whileR m s' f) (fun a => Post (afterR k a) P E) E) (fun N => ∀ σ2 H2, N σ2 H2 → ∃ m', m' < m + 1 ∧ ∃ s, J s σ2 H2 ∧ Post (whileR m' s f) (fun a => Post (afterR k a) P E) E)
      (fun r => match r with | .nx s' => Post (whileR m s' f) (fun a => Post (afterR k a) P E) E | .rt r => Post (.ok r) P E | .bk s' => Post (k s') P E) s σ' H' j (fun σ2 H2 h => ⟨m, Nat.lt_succ_self m, h⟩)
      (fun s' σ2 H2 j2 t2 => ⟨s', j2, t2⟩) (fun r t2 => Post.ok t2) (fun s' σ2 H2 j2 t2 => hd s' σ2 H2 j2 t2) ?_
    refine (Post.bind q).mono (fun r q => ?_) fun _ q => q
    cases r with
    | nx s' => exact q
    | rt r => exact q.ok
    | bk s' => exact q.ok
theorem h_par {i j : Nat} {ta : TA} (h : ta σ H fun vs H1 => ∃ v w, vs = [v, w] ∧ D'.nx ((σ.set i (some v)).set j (some w)) H1) : tPar i j ta D' σ H := h
theorem h_two {N : V → V → Prop} {x y : V} (h : N x y) : ∃ v w, [x, y] = [v, w] ∧ N v w := ⟨x, y, rfl, h⟩

/-! ### errors -/
def tryR {α : Type} (m : Res α) (h : Err → Res α) : Res α := match m with | .ok a => .ok a | .err e => h e | .stuck => .stuck
theorem Post.tr {α : Type} {m : Res α} {h : Err → Res α} {P : α → Prop} {R : Err → Prop} (q : Post (tryR m h) P R) : Post m P (fun e => Post (h e) P R) := by
  obtain ⟨q⟩ := q
  refine ⟨?_⟩
  cases m
  · exact q
  · exact ⟨q⟩
  · exact q
theorem h_tryJ {m : Res (Fl S β)} {h : Err → Res (Fl S β)} {k : S → Res β} (hP : Post ((tryR m h).bind (afterR k)) P E) (J : S → L2.St → Hp → Prop)
    (h1 : ∀ (N : L2.St → Hp → Prop) (T : Fl S β → Prop), (∀ s σ' H', J s σ' H' → T (.nx s) → N σ' H') → (∀ r, T (.rt r) → P r) → Post m T (fun e => Post (h e) T E) → t { D' with nx := N } σ H)
    (h2 : ∀ s σ' H', J s σ' H' → Post (k s) P E → D'.nx σ' H') : t D' σ H := by
  refine h1 _ (fun a => Post (afterR k a) P E) (fun s σ' H' j q => h2 s σ' H' j q) (fun r q => (q : Post (.ok r) P E).ok) ?_
  exact (Post.bind hP).tr
/-- what the written part says of an error's class -/
structure ExcT (K : PySem.W.Frag) (mg : Str → Option Value) (nm : Str) (C : Addr) : Prop where
  g : mg nm = some (.ref C)
  ec : ExcC K C
  ty : PySem.W.typeIn K (.ref C) = some (.type "type")
  kp : PySem.W.keepIn K (.ref C) = true
  ve : PySem.W.subIn K (.ref C) (.type "ValueError") = some true
  is : PySem.W.isClsIn K C = true
  self : PySem.W.subIn K (.ref C) (.ref C) = some true
/-- an error that is raised with a text alone -/
structure ExcR (K : PySem.W.Frag) (mg : Str → Option Value) (nm : Str) (C : Addr) : Prop extends ExcT K mg nm C where
  ex : PySem.W.excIn K C [.type "ValueError", .type "Exception", .type "BaseException", .type "object"] "ValueError.__new__" = true
theorem ExcT.names {X : Cx} {nm : Str} {C : Addr} (T : ExcT X.K X.mg nm C) (hg : Gl X nm) (hd : (nm == ("__debug__" : Str)) = false) : Names X nm (.ref C) := ⟨hg, hd, .inl T.g⟩
theorem ExcT.exm {mg : Str → Option Value} {nm : Str} {C : Addr} (T : ExcT K mg nm C) {cls : Value} {b : Bool} (h : PySem.W.subIn K cls (.ref C) = some b) : PySem.W.exmOne K cls (.ref C) = some b := PySem.W.exm_ref T.ec.hs T.ec.hd T.ty h
theorem ExcT.kit {mg : Str → Option Value} {nm : Str} {C C2 : Addr} (T : ExcT K mg nm C) {b : Bool} (h : PySem.W.subIn K (.ref C2) (.ref C) = some b) : PySem.W.kitOne K (.ref C2) (.ref C) = some b := by
  unfold PySem.W.kitOne
  by_cases e : (Value.ref C2 == Value.ref C) = true
  · rw [if_pos e]
    have e2 : C2 = C := Value.ref.inj (beq_iff_eq.mp e)
    subst e2
    exact T.self.symm.trans h
  · rw [if_neg e]
    have h2 : (PySem.W.clsIn K C).isSome = true := T.is
    show (if ((PySem.W.clsIn K C).isSome && PySem.W.typeIn K (.ref C) == some (.type "type")) = true then PySem.W.subIn K (.ref C2) (.ref C) else none) = some b
    rw [if_pos (by rw [h2, T.ty] <;> rfl)]
    exact h
theorem ExcT.kitVE {mg : Str → Option Value} {nm : Str} {C : Addr} (T : ExcT K mg nm C) : PySem.W.kitOne K (.ref C) (.type "ValueError") = some true := by
  unfold PySem.W.kitOne
  rw [if_neg (by simp)]
  show (if PySem.W.kitMeta "ValueError" = true then PySem.W.subIn K (.ref C) (.type "ValueError") else none) = some true
  rw [if_pos (by decide +kernel)]
  exact T.ve
def tIsE (K : PySem.W.Frag) (a : Addr) (cls : Value) (d : Option Addr) (targs : TA) : TE := fun σ H Q => ∃ Dc, cls = .ref Dc ∧ d = none ∧ ExcC K Dc ∧ tCB (rIsE K Dc a) targs σ H Q
theorem pe_isE {X : Cx} {e : Expr} {a : Addr} {cls : Value} {d : Option Addr} {targs : TA} (hK : X.K = K) (h : ∀ Dc, cls = .ref Dc → d = none → ExcC K Dc → PE X e (tCB (rIsE K Dc a) targs)) : PE X e (tIsE K a cls d targs) :=
  ⟨fun pins s σ H Q I q => by
    obtain ⟨Dc, e1, e2, ec, q⟩ := q
    exact (h Dc e1 e2 ec).run pins s σ H Q I q⟩
theorem h_isE {a C : Addr} {targs : TA} {mg : Str → Option Value} {nm : Str} (T : ExcT K mg nm C) (h : targs σ H fun vs H1 => rIsE K C a vs H1 Q) : tIsE K a (.ref C) none targs σ H Q := ⟨C, rfl, rfl, T.ec, h⟩
theorem h_isER {a C C2 : Addr} {b : Bool} (h : PySem.W.kitOne K (.ref C) (.ref C2) = some b) (q : Q (.bl b) H) : rIsE K C a [.ref a, .ref C2] H Q := ⟨.ref C2, .ref C2, b, rfl, fun _ r => r, h, q⟩
theorem h_isEB {a C : Addr} {n : String} {b : Bool} (h : PySem.W.kitOne K (.ref C) (.type n) = some b) (q : Q (.bl b) H) : rIsE K C a [.ref a, .ty n] H Q := ⟨.ty n, .type n, b, rfl, fun _ r => r, h, q⟩
/-- the clause of a try meets the error -/
theorem h_wAs {C S' : Addr} {i : Nat} {ts : Addr → Value → Option Addr → TS} {Wout : WX} {mg : Str → Option Value} {nm : Str} (T : ExcT K mg nm S') (hs : PySem.W.subIn K (.ref C) (.ref S') = some true)
    (h : ∀ a, H a = none → ts a (.ref C) none { nx := fun σ' H' => D'.nx (σ'.set i none) H', rt := D'.rt, bk := fun σ' H' => D'.bk (σ'.set i none) H', ct := fun σ' H' => D'.ct (σ'.set i none) H' } (σ.set i (some (.ref a))) H) :
    wAs K (.ref S') i ts Wout D' (.ref C) none σ H := ⟨true, T.exm hs, fun _ a ha => h a ha, fun q => nomatch q⟩
theorem h_wOnly {C S' : Addr} {ts : Addr → Value → Option Addr → TS} {Wout : WX} {mg : Str → Option Value} {nm : Str} (T : ExcT K mg nm S') (hs : PySem.W.subIn K (.ref C) (.ref S') = some true)
    (h : ∀ a, H a = none → ts a (.ref C) none D' σ H) : wOnly K (.ref S') ts Wout D' (.ref C) none σ H := ⟨true, T.exm hs, fun _ a ha => h a ha, fun q => nomatch q⟩
end

/-! ### a try by its name -/
def tTryA (K : PySem.W.Frag) (c : Value) (i : Nat) (ts : Addr → Value → Option Addr → TS) (Wout : WX) (tb : WX → TS) : TS := fun D σ H => tb (wAs K c i ts Wout D) D σ H
def tTryO (K : PySem.W.Frag) (c : Value) (ts : Addr → Value → Option Addr → TS) (Wout : WX) (tb : WX → TS) : TS := fun D σ H => tb (wOnly K c ts Wout D) D σ H
section
variable {X : Cx} {n x : Str} {c : Value} {i : Nat} {body suite : List Stmt} {b₀ : Stmt} {np pos pos' : Pos} {tb : WX → TS} {ts : Addr → Value → Option Addr → TS} {Wout : WX} {D' : Ends} {σ : L2.St} {H : Hp} {K : PySem.W.Frag}
theorem ps_tryA (hs : X.stack = X.env :: X.outer) (hf : X.env.frame = some X.env.locals) (hN : X.N.Nodup) (hi : X.N[i]? = some n) (hln : X.env.kindOf n = some .local) (hc : Names X x c) (tk : Takes X Wout)
    (hb : ∀ (W : WX) (pn : List (Addr × Obj)) (xe : Value → Shared → Prop), Takes (X.tr pn xe) W → PassesOwn (model X.prog X.w) X.A X.env xe → PSs (X.tr pn xe) body (tb W))
    (hsu : ∀ (a : Addr) (oe : Obj) (cls : Value) (d : Option Addr) (pn : List (Addr × Obj)), Zc cls d oe → (∃ vs, oe.data = .fields vs) → PSs (X.suite a ((a, oe) :: pn)) (b₀ :: suite) (ts a cls d)) (hK : X.K = K := by rfl) :
    PS X (.Try body [.ExceptHandler (some (.Name x np)) (some n) (b₀ :: suite) pos'] [] [] pos) (tTryA K c i ts Wout tb) := hK ▸ ps_try_as hs hf hN hi hln hc tk hb hsu
theorem ps_tryO (hs : X.stack = X.env :: X.outer) (hf : X.env.frame = some X.env.locals) (hc : Names X x c) (tk : Takes X Wout)
    (hb : ∀ (W : WX) (pn : List (Addr × Obj)) (xe : Value → Shared → Prop), Takes (X.tr pn xe) W → PassesOwn (model X.prog X.w) X.A X.env xe → PSs (X.tr pn xe) body (tb W))
    (hsu : ∀ (a : Addr) (oe : Obj) (cls : Value) (d : Option Addr) (pn : List (Addr × Obj)), Zc cls d oe → (∃ vs, oe.data = .fields vs) → PSs (X.suite a ((a, oe) :: pn)) (b₀ :: suite) (ts a cls d)) (hK : X.K = K := by rfl) :
    PS X (.Try body [.ExceptHandler (some (.Name x np)) none (b₀ :: suite) pos'] [] [] pos) (tTryO K c ts Wout tb) := hK ▸ ps_try_only hs hf hc tk hb hsu
theorem h_tryA (h : tb (wAs K c i ts Wout D') D' σ H) : tTryA K c i ts Wout tb D' σ H := h
theorem h_tryO (h : tb (wOnly K c ts Wout D') D' σ H) : tTryO K c ts Wout tb D' σ H := h
end
theorem Post.mono2 {α : Type} {m : Res α} {P P' : α → Prop} {R R' : Err → Prop} (h : Post m P R) (hr : ∀ e, R e → R' e) (hp : ∀ a, P a → P' a) : Post m P' R' := h.mono hp hr
theorem boot_ValueError : bootBuiltins "ValueError" = some (.type "ValueError") := by decide +kernel
/-! ### things that are lists or tuples -/
def lenD (d : D) : Res Int := match d with | .lst l => .ok l.length | .tup l => .ok l.length | .str x => .ok x.length | _ => .stuck
section
variable {K : PySem.W.Frag} {B H : Hp} {Q : VK} {v : V} {d : D} {σ : L2.St} {g : TGs}
theorem Post.lenD {β : Type} {k : Int → Res β} {P : β → Prop} {R : Err → Prop} (h : Post ((Y.lenD d).bind k) P R) (hs : ∀ x, d ≠ .str x) : ∃ ds : List D, (d = .lst ds ∨ d = .tup ds) ∧ Post (k ds.length) P R := by
  cases d with
  | lst l => exact ⟨l, .inl rfl, h⟩
  | tup l => exact ⟨l, .inr rfl, h⟩
  | str x => exact absurd rfl (hs x)
  | _ => exact h.elim
theorem h_tupG {n : Nat} {p : Addr} {xs : List V} {N : L2.St → Hp → Prop} (s : SqT K H p xs) (hl : xs.length = n) (h : g xs σ H N) : gTup K n g (.ref p) σ H N := ⟨p, xs, rfl, s, hl, h⟩
theorem h_gcons {t : TG} {u : TGs} {x : V} {xs : List V} {N : L2.St → Hp → Prop} (h : t x σ H fun σ' H' => u xs σ' H' N) : gCons t u (x :: xs) σ H N := ⟨x, xs, rfl, h⟩
theorem h_gnil {N : L2.St → Hp → Prop} (h : N σ H) : gNil [] σ H N := ⟨rfl, h⟩
end

section
variable {K : PySem.W.Frag} {B H : Hp} {Q : VK} {p : Addr} {xs : List V} {d1 d2 d3 d4 d5 : D}
theorem h_lenTl {l : List D} (s : SqT K H p xs) (r : RepL K B xs (l.map enc)) (h : Q (.int l.length) H) : rLenY K [V.ref p] H Q := by
  refine ⟨p, xs, rfl, .inr s, ?_⟩
  rw [show xs.length = l.length from by rw [r.length, List.length_map]]
  exact h
theorem tup2 {x y : V} (hl : xs.length = 2) (h0 : atI xs 0 = some x) (h1 : atI xs 1 = some y) : xs = [x, y] := by
  match xs, hl with
  | [a, b], _ =>
    have e0 : a = x := Option.some.inj h0
    have e1 : b = y := Option.some.inj h1
    rw [e0, e1]
theorem tup3 {x y z : V} (hl : xs.length = 3) (h0 : atI xs 0 = some x) (h1 : atI xs 1 = some y) (h2 : atI xs 2 = some z) : xs = [x, y, z] := by
  match xs, hl with
  | [a, b, c], _ =>
    have e0 : a = x := Option.some.inj h0
    have e1 : b = y := Option.some.inj h1
    have e2 : c = z := Option.some.inj h2
    rw [e0, e1, e2]
theorem tup4 {x y z u : V} (hl : xs.length = 4) (h0 : atI xs 0 = some x) (h1 : atI xs 1 = some y) (h2 : atI xs 2 = some z) (h3 : atI xs 3 = some u) : xs = [x, y, z, u] := by
  match xs, hl with
  | [a, b, c, d], _ =>
    have e0 : a = x := Option.some.inj h0
    have e1 : b = y := Option.some.inj h1
    have e2 : c = z := Option.some.inj h2
    have e3 : d = u := Option.some.inj h3
    rw [e0, e1, e2, e3]
theorem RepL.open2 (r : RepL K B xs [d1, d2]) : ∃ u1 u2, xs = [u1, u2] ∧ Rep K B u1 d1 ∧ Rep K B u2 d2 := by
  cases r with | cons h1 r => cases r with | cons h2 r => cases r; exact ⟨_, _, rfl, h1, h2⟩
theorem RepL.open3 (r : RepL K B xs [d1, d2, d3]) : ∃ u1 u2 u3, xs = [u1, u2, u3] ∧ Rep K B u1 d1 ∧ Rep K B u2 d2 ∧ Rep K B u3 d3 := by
  cases r with | cons h1 r => cases r with | cons h2 r => cases r with | cons h3 r => cases r; exact ⟨_, _, _, rfl, h1, h2, h3⟩
theorem RepL.open4 (r : RepL K B xs [d1, d2, d3, d4]) : ∃ u1 u2 u3 u4, xs = [u1, u2, u3, u4] ∧ Rep K B u1 d1 ∧ Rep K B u2 d2 ∧ Rep K B u3 d3 ∧ Rep K B u4 d4 := by
  cases r with | cons h1 r => cases r with | cons h2 r => cases r with | cons h3 r => cases r with | cons h4 r => cases r; exact ⟨_, _, _, _, rfl, h1, h2, h3, h4⟩
end
/-! ### defs with defaults -/
structure FunV (K : PySem.W.Frag) (x qual : Str) (st : Stmt) (dv : List Value) (f : Addr) (fd : FuncData) : Prop where
  ex : ∃ (oc : Value) (od : Option Addr) (T : Addr) (o : Obj) (n : Nat) (kV doc pm : Value) (an : Option Addr) (cdv ct : Value) (osl : Array (Option Value)),
    fd = PySem.W.fnOf x qual (defArgs st) (defBody st) (defScope st) (.ref T) kV doc pm an cdv ct ∧ K.lookup f = some ⟨oc, od, .func fd, osl⟩ ∧ PySem.W.codeIn K cdv qual = true ∧ K.lookup T = some o ∧ o.data = .seq dv.toArray n
  kp : PySem.W.keepIn K (.ref f) = true
section
variable {P : Program} {w : World} {K : PySem.W.Frag} {mg : Str → Option Value} {base : Heap} {x qual : Str} {st : Stmt} {dv : List Value} {f : Addr} {fd : FuncData} {ps ks : List Str}
theorem funV_mk {oc : Value} {od an oT : Option Addr} {osl sT : Array (Option Value)} {kV doc pm cdv ct cT : Value} {T : Addr} {n : Nat} (l : K.lookup f = some ⟨oc, od, .func (PySem.W.fnOf x qual (defArgs st) (defBody st) (defScope st) (.ref T) kV doc pm an cdv ct), osl⟩)
    (c : PySem.W.codeIn K cdv qual = true) (k : PySem.W.keepIn K (.ref f) = true) (lT : K.lookup T = some ⟨cT, oT, .seq dv.toArray n, sT⟩) : FunV K x qual st dv f (PySem.W.fnOf x qual (defArgs st) (defBody st) (defScope st) (.ref T) kV doc pm an cdv ct) :=
  ⟨⟨oc, od, T, _, n, kV, doc, pm, an, cdv, ct, osl, rfl, l, c, lT, rfl⟩, k⟩
theorem FunV.okX {N : List Str} {k : Nat} {sp : Sp} (F : FunV K x qual st dv f fd) (S : FnScope N ps (defScope st)) (len : ∀ vs H Q E, sp vs H Q E → vs.length = ps.length)
    (hbody : ∀ (cdv : Value) (A : Around) (outer : List Env) (s : Shared) (H : Hp) (vs : List V) (Q : VK) (E : XK), Room k (A.deeper (envOfC qual (defScope st) s.heap.objs.size f cdv)) → sp vs H Q E →
      ∃ t, PSs (cxOf (L2.CX P w) P w K mg base N qual (defScope st) f cdv A outer s H E) (defBody st) t ∧ t { nx := fun _ H' => Q .non H', rt := Q } (start N vs) H) : FnOk P w K mg base (L2.CX P w) (k + 1) f fd ps sp := by
  obtain ⟨oc, od, T, o, n, kV, doc, pm, an, cdv, ct, osl, rfl, lk, hcd, _, _⟩ := F.ex
  exact fn_of lk hcd S len fun A outer s H vs Q E hr hsp => hbody cdv A outer s H vs Q E hr hsp
theorem FunV.ok {N : List Str} {k : Nat} {sp : Sp} (F : FunV K x qual st dv f fd) (S : FnScope N ps (defScope st)) (len : ∀ vs H Q E, sp vs H Q E → vs.length = ps.length)
    (hbody : ∀ (cdv : Value) (A : Around) (outer : List Env) (s : Shared) (H : Hp) (vs : List V) (Q : VK) (E : XK), Room k (A.deeper (envOfC qual (defScope st) s.heap.objs.size f cdv)) → sp vs H Q E →
      ∃ t, PSs (cxOf CX0 P w K mg base N qual (defScope st) f cdv A outer s H E).nox (defBody st) t ∧ t { nx := fun _ H' => Q .non H', rt := Q } (start N vs) H) : FnOk P w K mg base CX0 (k + 1) f fd ps sp := by
  obtain ⟨oc, od, T, o, n, kV, doc, pm, an, cdv, ct, osl, rfl, lk, hcd, _, _⟩ := F.ex
  refine fn_of lk hcd S len fun A outer s H vs Q E hr hsp => ?_
  obtain ⟨t, h, q⟩ := hbody cdv A outer s H vs Q E hr hsp
  exact ⟨t, h.nox, q⟩
/-- n values are written, the defaults behind the first j fill up -/
theorem FunV.binds (F : FunV K x qual st dv f fd) (n j : Nat) (hn : n + (dv.length - j) = ps.length)
    (h : ∀ (T : Addr) (kV doc pm : Value) (an : Option Addr) (cdv ct : Value) (us : List Value), us.length = n →
      ∃ k, bindArgs (PySem.W.fnOf x qual (defArgs st) (defBody st) (defScope st) (.ref T) kV doc pm an cdv ct) ⟨us, []⟩ = seqItems? (.ref T) >>= k ∧ k (some dv.toArray) = pure (ps.zip (us ++ dv.drop j))) : Binds K fd ps (dv.drop j) := by
  obtain ⟨oc, od, T, o, m, kV, doc, pm, an, cdv, ct, osl, rfl, lk, hcd, lT, oT⟩ := F.ex
  refine fun s us X hlen => ?_
  have l2 : us.length = n := by
    rw [List.length_append, List.length_drop] at hlen
    omega
  obtain ⟨k, e1, e2⟩ := h T kV doc pm an cdv ct us l2
  refine BindsTo.of_looks fun M => ?_
  rw [e1]
  exact looks_items X lT oT (.of_pure e2)
theorem FunV.kb {g : List Value → List Value → List Value} {gV : List V → List V → List V} (F : FunV K x qual st dv f fd)
    (h : ∀ (T : Addr) (kV doc pm : Value) (an : Option Addr) (cdv ct : Value) (us ws : List Value), (g us ws).length = ps.length → ∃ k, bindArgs (PySem.W.fnOf x qual (defArgs st) (defBody st) (defScope st) (.ref T) kV doc pm an cdv ct) ⟨us, ks.zip ws⟩ = seqItems? (.ref T) >>= k ∧ k (some dv.toArray) = pure (ps.zip (g us ws)))
    (r : ∀ {vs : List V} {us : List Value} {zs : List V} {ws : List Value}, Vals vs us → Vals zs ws → Vals (gV vs zs) (g us ws)) : KBinds K fd ps ks g gV := by
  obtain ⟨oc, od, T, o, m, kV, doc, pm, an, cdv, ct, osl, rfl, lk, hcd, lT, oT⟩ := F.ex
  refine ⟨fun s us ws X hl => ?_, r⟩
  obtain ⟨k, e1, e2⟩ := h T kV doc pm an cdv ct us ws hl
  refine BindsTo.of_looks fun M => ?_
  rw [e1]
  exact looks_items X lT oT (.of_pure e2)
end
/-! ### // by what may be negative -/
def CDivZ (_ j : Int) : Prop := j ≠ 0 ∧ j.natAbs.log2 < 9000
instance {i j : Int} : Decidable (CDivZ i j) := inferInstanceAs (Decidable (_ ∧ _))
theorem op_fdivZ {X : Cx} : OpR X (binaryOp .FloorDiv) (rI CDivZ fun i j => .int (Int.fdiv i j)) := opI fun i j _ _ _ _ _ hc q => floordiv_int hc.1 q (.inl (PyProof.noPylong_of_log2 hc.2))
/-! ### x is None -/
def isNonD : D → Bool | .non => true | _ => false
def rIsN : V → V → Hp → VK → Prop := fun x y H Q => y = .non ∧ Q (.bl (decide (x = .non))) H
def rNotN : V → V → Hp → VK → Prop := fun x y H Q => y = .non ∧ Q (.bl (!decide (x = .non))) H
theorem op_isNn {X : Cx} : OpR X (compareOp .Is) rIsN := op_isN
theorem op_notNn {X : Cx} : OpR X (compareOp .IsNot) rNotN := op_notN
section
variable {K : PySem.W.Frag} {B H : Hp} {Q : VK} {v : V} {d : D}
theorem Rep.isNon (r : Rep K B v d) : decide (v = .non) = isNonD d := by
  cases r <;> rfl
theorem h_isN (r : Rep K B v d) (h : Q (.bl (isNonD d)) H) : rIsN v .non H Q := ⟨rfl, by rw [r.isNon]; exact h⟩
theorem h_notN (r : Rep K B v d) (h : Q (.bl (!isNonD d)) H) : rNotN v .non H Q := ⟨rfl, by rw [r.isNon]; exact h⟩
end
/-! ### bool + bool, comparisons of lists, xs[::-1], xs.pop(i) -/
theorem int_add_bb (a b : Bool) : Gives (Builtin.«int.__add__» ⟨[.bool a, .bool b], []⟩) (.int ((if a = true then (1 : Int) else 0) + (if b = true then (1 : Int) else 0))) :=
  .of_wp fun M A E s Q h => by obtain ⟨hp, g, d, tk, os⟩ := s; wp_walk; exact ⟨_, rfl, h⟩
def rAddBB : V → V → Hp → VK → Prop := fun x y H Q => ∃ a b, x = .bl a ∧ y = .bl b ∧ Q (.int (b2z a + b2z b)) H
theorem op_addBB {X : Cx} : OpR X (binaryOp .Add) rAddBB := by
  intro pins s σ H x y v u Q I rx ry h
  obtain ⟨a, b, rfl, rfl, q⟩ := h
  cases rx
  cases ry
  exact binaryOp_gives (op := .Add) (T := "bool") rfl rfl F.fills_bool_add F.slot_bool_add F.entry_int_add (F.args_int_add_2 _ _) (int_add_bb a b) trivial ⟨.int (b2z a + b2z b), H, I.tok _, ⟨_, rfl⟩, q⟩
def rAddIB : V → V → Hp → VK → Prop := fun x y H Q => ∃ i k, x = .int i ∧ y = .bl k ∧ Q (.int (i + b2i k)) H
theorem op_addIB {X : Cx} : OpR X (binaryOp .Add) rAddIB := op_add_ib
section
variable {K : PySem.W.Frag} {B B' H H' : Hp} {σ : L2.St} {Q : VK} {x y v : V} {d e : D} {p q : Addr} {xs ys : List V} {te : TE}
theorem h_addBB {a b : Bool} (h : Q (.int (b2z a + b2z b)) H) : rAddBB (.bl a) (.bl b) H Q := ⟨a, b, rfl, rfl, h⟩
theorem h_addIB {i : Int} {k : Bool} (h : Q (.int (i + b2z k)) H) : rAddIB (.int i) (.bl k) H Q := ⟨i, k, rfl, rfl, by cases k <;> exact h⟩
/-- what may be compared as data -/
def Cmp (K : PySem.W.Frag) (H : Hp) (v : V) (d : D) : Prop := flatD d = true → Dp K H v (pyD d)
theorem Rep.cp (w : Ex B H) (r : Rep K B v d) : Cmp K H v d := r.dp w
theorem SqL.cp {ds : List D} (w : Ex B H) (s : SqL K H p xs) (r : RepL K B xs ds) : Cmp K H (.ref p) (.lst ds) := fun f => .lst s (RepL.dp w r f)
theorem h_eqC (rx : Cmp K H x d) (ry : Cmp K H y e) (o : okEq d e) (h : Q (.bl (eqD d e)) H) : rEqD K x y H Q := ⟨_, _, rx o.1, ry o.2.1, o.2.2.1, o.2.2.2, h⟩
theorem h_neC (rx : Cmp K H x d) (ry : Cmp K H y e) (o : okEq d e) (h : Q (.bl (!eqD d e)) H) : rNeD K x y H Q := ⟨_, _, rx o.1, ry o.2.1, o.2.2.1, o.2.2.2, h⟩
/-- xs[::-1] -/
theorem h_revL (h : te σ H fun x H1 => ∃ a xs, x = .ref a ∧ SqL K H1 a xs ∧ NwL xs.reverse H1 Q) : tRevL K te σ H Q := h
theorem h_revQ (s : SqL K H p xs) (h : NwL xs.reverse H Q) : ∃ a ys, V.ref p = .ref a ∧ SqL K H a ys ∧ NwL ys.reverse H Q := ⟨p, xs, rfl, s, h⟩
theorem RepL.rev0 : ∀ {xs : List V} {ds : List D}, RepL K B xs ds → RepL K B xs.reverse ds.reverse
  | _, _, .nil => .nil
  | _, _, .cons h t => by rw [List.reverse_cons, List.reverse_cons]; exact (RepL.rev0 t).append (.cons h .nil)
theorem RepL.rev {α : Type} [Enc α] {l : List α} (r : RepL K B xs (l.map enc)) : RepL K B xs.reverse (l.reverse.map enc) := by
  rw [List.map_reverse]
  exact RepL.rev0 r
theorem RepL.erase : ∀ {xs : List V} {ds : List D} (k : Nat), RepL K B xs ds → RepL K B (xs.eraseIdx k) (ds.eraseIdx k)
  | _, _, _, .nil => .nil
  | _, _, 0, .cons h t => t
  | _, _, k + 1, .cons h t => .cons h (RepL.erase k t)
theorem map_erase {α : Type} [Enc α] : ∀ (l : List α) (k : Nat), (l.eraseIdx k).map (enc : α → D) = (l.map enc).eraseIdx k
  | [], _ => rfl
  | _ :: _, 0 => rfl
  | x :: xs, k + 1 => congrArg (enc x :: ·) (map_erase xs k)
/-- l.pop(i), i from 0 on -/
def popR {α : Type} (l : List α) (i : Int) : Res (α × List α) := if 0 ≤ i ∧ i < (l.length : Int) ∧ l.length ≤ 1000000 then match l[i.toNat]? with | some x => .ok (x, l.eraseIdx i.toNat) | none => .stuck else .stuck
theorem Post.pop {α β : Type} {l : List α} {i : Int} {k : α × List α → Res β} {P : β → Prop} {R : Err → Prop} (h : Post ((popR l i).bind k) P R) : ∃ x, (0 ≤ i ∧ i < (l.length : Int) ∧ l.length ≤ 1000000) ∧ l[i.toNat]? = some x ∧ Post (k (x, l.eraseIdx i.toNat)) P R := by
  unfold popR at h
  by_cases c : 0 ≤ i ∧ i < (l.length : Int) ∧ l.length ≤ 1000000
  · rw [if_pos c] at h
    cases e : l[i.toNat]? with
    | none => rw [e] at h; exact h.elim
    | some x => rw [e] at h; exact ⟨x, c, rfl, h⟩
  · rw [if_neg c] at h; exact h.elim
theorem h_popL {α : Type} [Enc α] {l : List α} {i : Int} {b : α} (w : Ex B H) (m : Mu K B H p (l.map enc)) (hi : 0 ≤ i ∧ i < (l.length : Int) ∧ l.length ≤ 1000000) (hb : l[i.toNat]? = some b)
    (h : ∀ y H', Stp [p] B H B H' → Mu K B H' p ((l.eraseIdx i.toNat).map enc) → Rep K B y (enc b) → Q y H') : rPopAt (.ref p) [.int i] H Q := by
  obtain ⟨hb0, xs, hp, hr⟩ := id m
  have hl : xs.length = l.length := by rw [hr.length, List.length_map]
  obtain ⟨u, hu, ru⟩ := hr.get (i := i.toNat) (d := enc b) (by rw [List.getElem?_map, hb]; rfl)
  have rl : RepL K B (xs.eraseIdx i.toNat) ((l.eraseIdx i.toNat).map enc) := by
    rw [map_erase]
    exact RepL.erase _ hr
  refine ⟨p, xs, i, i.toNat, u, rfl, rfl, hp, by omega, by omega, ?_, hu, ?_⟩
  · unfold seqIndex?
    rw [hl]
    simp [show ¬ i < 0 from by omega, hi.1, hi.2.1]
  · obtain ⟨s, m'⟩ := Stp.mut w m rl
    exact h _ _ s m' ru
end
theorem pg_tupK {X : Cx} {pos : Pos} {es : List Expr} {k : Nat} {t : TGs} {n : Nat} {K : PySem.W.Frag} (hc : X.calm = true) (hK : X.K = K) (h : PGs X es t)
    (hn : (assignEach es X.env).length = n := by rfl) (hst : (assignEach es X.env).findIdx? (·.1) = none := by rfl) : PG X (.Tuple es k pos) (gTup K n t) := hK ▸ pg_tup hc h hn hst
end Y

set_option Elab.async false
set_option linter.all false
set_option maxRecDepth 100000
set_option maxHeartbeats 4000000
namespace A
open PySem PySem.Spec PyProof.Rows L2 Y
open Y.Enc (enc)
abbrev top (i : Nat) : Stmt := PySem.Challenge.pw_lanescroll_k10_whole_fractions_in_any_or.main.body.getD i (.Pass ⟨0, 0, 0, 0⟩)
/-! ### divisor -/
def m_divisor (a_one : Int) (a_other : Int) : Res Int :=
  lt ((absI a_one) : Int) fun x1 => lt ((absI a_other) : Int) fun x2 => (whileR (x2.natAbs + 1) ((x1, x2) : Int × Int) (fun (a12 : Int × Int) => (if (decide (0 < a12.2)) = true then guardR (0 < a12.2) <| lt ((a12.1 % a12.2) : Int) fun x16 => .ok (.nx (a12.2, x16)) else .ok (.bk (a12.1, a12.2))))).bind (afterR fun a17 => .ok a17.1)
def sp_divisor (K : PySem.W.Frag) : Sp := fun vs H Q _ => ∃ (B : Hp) (a_one : Int) (a_other : Int), Ex B H ∧ vs = [.int a_one, .int a_other] ∧ Post (m_divisor a_one a_other) (fun r => Ret K [] B H (enc r) Q) (fun _ => False)
abbrev s_divisor : Stmt := top 4
theorem sc_divisor : FnScope ["one", "other"] ["one", "other"] (defScope s_divisor) := ⟨rfl, rfl, rfl, by decide +kernel, rfl, by decide +kernel, by decide +kernel⟩
/-! ### is_number -/
def m_is_number (a_thing : D) : Res Bool :=
  (if (isA "int" a_thing) = true then .ok (!(isA "bool" a_thing)) else .ok false)
def sp_is_number (K : PySem.W.Frag) : Sp := fun vs H Q _ => ∃ (B : Hp) (v_thing : V) (a_thing : D), Ex B H ∧ vs = [v_thing] ∧ Rep K B v_thing (enc a_thing) ∧ Post (m_is_number a_thing) (fun r => Ret K [] B H (enc r) Q) (fun _ => False)
abbrev s_is_number : Stmt := top 5
theorem sc_is_number : FnScope ["thing"] ["thing"] (defScope s_is_number) := ⟨rfl, rfl, rfl, by decide +kernel, rfl, by decide +kernel, by decide +kernel⟩
/-! ### fraction -/
def m_fraction (a_top : D) (a_bottom : D) : Res (Tp2 Int Int) :=
  ((m_is_number a_top).noErr).bind fun x1 => (if x1 = true then ((m_is_number a_bottom).noErr).bind fun x7 => (if x7 = true then guardR (okEq a_bottom (enc (0 : Int))) <| (if (eqD a_bottom (enc (0 : Int))) = true then .err ⟨"NoFraction", []⟩ else (asI a_top).bind fun i13 => (asI a_bottom).bind fun i16 => ((m_divisor i13 i16).noErr).bind fun x19 => ((if (decide (i16 < 0)) = true then lt ((-x19) : Int) fun x28 => .ok x28 else .ok x19) : Res (Int)).bind fun a29 => guardR (CDivZ i13 a29) <| guardR (CDivZ i16 a29) <| .ok (⟨(Int.fdiv i13 a29), (Int.fdiv i16 a29)⟩ : (Tp2 Int Int))) else .err ⟨"NoFraction", []⟩) else .err ⟨"NoFraction", []⟩)
def sp_fraction (K : PySem.W.Frag) (mg : Str → Option Value) : Sp := fun vs H Q E => ∃ (B : Hp) (v_top : V) (a_top : D) (v_bottom : V) (a_bottom : D), Ex B H ∧ vs = [v_top, v_bottom] ∧ Rep K B v_top (enc a_top) ∧ Rep K B v_bottom (enc a_bottom) ∧ Post (m_fraction a_top a_bottom) (fun r => Ret K [] B H (enc r) Q) (fun e => Rai mg [] B H e E)
abbrev s_fraction : Stmt := top 6
theorem sc_fraction : FnScope ["top", "bottom", "share"] ["top", "bottom"] (defScope s_fraction) := ⟨rfl, rfl, rfl, by decide +kernel, rfl, by decide +kernel, by decide +kernel⟩
/-! ### plus -/
def m_plus (a_one : (Tp2 Int Int)) (a_other : (Tp2 Int Int)) : Res (Tp2 Int Int) :=
  guardR (CMulW a_one.a a_other.b) <| guardR (CMulW a_other.a a_one.b) <| guardR (CMulW a_one.b a_other.b) <| (m_fraction (enc (((a_one.a * a_other.b) + (a_other.a * a_one.b)) : Int)) (enc ((a_one.b * a_other.b) : Int))).bind fun x37 => .ok x37
def sp_plus (K : PySem.W.Frag) (mg : Str → Option Value) : Sp := fun vs H Q E => ∃ (B : Hp) (v_one : V) (a_one : (Tp2 Int Int)) (v_other : V) (a_other : (Tp2 Int Int)), Ex B H ∧ vs = [v_one, v_other] ∧ Rep K B v_one (enc a_one) ∧ Rep K B v_other (enc a_other) ∧ Post (m_plus a_one a_other) (fun r => Ret K [] B H (enc r) Q) (fun e => Rai mg [] B H e E)
abbrev s_plus : Stmt := top 7
theorem sc_plus : FnScope ["one", "other"] ["one", "other"] (defScope s_plus) := ⟨rfl, rfl, rfl, by decide +kernel, rfl, by decide +kernel, by decide +kernel⟩
/-! ### minus -/
def m_minus (a_one : (Tp2 Int Int)) (a_other : (Tp2 Int Int)) : Res (Tp2 Int Int) :=
  guardR (CMulW a_one.a a_other.b) <| guardR (CMulW a_other.a a_one.b) <| guardR (CMulW a_one.b a_other.b) <| (m_fraction (enc (((a_one.a * a_other.b) - (a_other.a * a_one.b)) : Int)) (enc ((a_one.b * a_other.b) : Int))).bind fun x37 => .ok x37
def sp_minus (K : PySem.W.Frag) (mg : Str → Option Value) : Sp := fun vs H Q E => ∃ (B : Hp) (v_one : V) (a_one : (Tp2 Int Int)) (v_other : V) (a_other : (Tp2 Int Int)), Ex B H ∧ vs = [v_one, v_other] ∧ Rep K B v_one (enc a_one) ∧ Rep K B v_other (enc a_other) ∧ Post (m_minus a_one a_other) (fun r => Ret K [] B H (enc r) Q) (fun e => Rai mg [] B H e E)
abbrev s_minus : Stmt := top 8
theorem sc_minus : FnScope ["one", "other"] ["one", "other"] (defScope s_minus) := ⟨rfl, rfl, rfl, by decide +kernel, rfl, by decide +kernel, by decide +kernel⟩
/-! ### times -/
def m_times (a_one : (Tp2 Int Int)) (a_other : (Tp2 Int Int)) : Res (Tp2 Int Int) :=
  guardR (CMulW a_one.a a_other.a) <| guardR (CMulW a_one.b a_other.b) <| (m_fraction (enc ((a_one.a * a_other.a) : Int)) (enc ((a_one.b * a_other.b) : Int))).bind fun x25 => .ok x25
def sp_times (K : PySem.W.Frag) (mg : Str → Option Value) : Sp := fun vs H Q E => ∃ (B : Hp) (v_one : V) (a_one : (Tp2 Int Int)) (v_other : V) (a_other : (Tp2 Int Int)), Ex B H ∧ vs = [v_one, v_other] ∧ Rep K B v_one (enc a_one) ∧ Rep K B v_other (enc a_other) ∧ Post (m_times a_one a_other) (fun r => Ret K [] B H (enc r) Q) (fun e => Rai mg [] B H e E)
abbrev s_times : Stmt := top 9
theorem sc_times : FnScope ["one", "other"] ["one", "other"] (defScope s_times) := ⟨rfl, rfl, rfl, by decide +kernel, rfl, by decide +kernel, by decide +kernel⟩
/-! ### less -/
def m_less (a_one : (Tp2 Int Int)) (a_other : (Tp2 Int Int)) : Res Bool :=
  guardR (CMulW a_one.a a_other.b) <| guardR (CMulW a_other.a a_one.b) <| .ok (decide ((a_one.a * a_other.b) < (a_other.a * a_one.b)))
def sp_less (K : PySem.W.Frag) : Sp := fun vs H Q _ => ∃ (B : Hp) (v_one : V) (a_one : (Tp2 Int Int)) (v_other : V) (a_other : (Tp2 Int Int)), Ex B H ∧ vs = [v_one, v_other] ∧ Rep K B v_one (enc a_one) ∧ Rep K B v_other (enc a_other) ∧ Post (m_less a_one a_other) (fun r => Ret K [] B H (enc r) Q) (fun _ => False)
abbrev s_less : Stmt := top 10
theorem sc_less : FnScope ["one", "other"] ["one", "other"] (defScope s_less) := ⟨rfl, rfl, rfl, by decide +kernel, rfl, by decide +kernel, by decide +kernel⟩
/-! ### floor -/
def m_floor (a_one : (Tp2 Int Int)) : Res Int :=
  guardR (CDivW a_one.a a_one.b) <| .ok (a_one.a / a_one.b)
def sp_floor (K : PySem.W.Frag) : Sp := fun vs H Q _ => ∃ (B : Hp) (v_one : V) (a_one : (Tp2 Int Int)), Ex B H ∧ vs = [v_one] ∧ Rep K B v_one (enc a_one) ∧ Post (m_floor a_one) (fun r => Ret K [] B H (enc r) Q) (fun _ => False)
abbrev s_floor : Stmt := top 11
theorem sc_floor : FnScope ["one"] ["one"] (defScope s_floor) := ⟨rfl, rfl, rfl, by decide +kernel, rfl, by decide +kernel, by decide +kernel⟩
/-! ### _law_cell_at -/
def l_cell_at (a_script : (List Int)) (a_k : Int) : Res Int :=
  (if (decide (a_k < (a_script.length : Int))) = true then (ixR a_script a_k).bind fun x9 => .ok x9 else .ok 0)
def sp__law_cell_at (K : PySem.W.Frag) : Sp := fun vs H Q _ => ∃ (B : Hp) (v_script : V) (a_script : (List Int)) (a_k : Int), Ex B H ∧ vs = [v_script, .int a_k] ∧ Bor K B H [] v_script (a_script.map enc) ∧ Post (l_cell_at a_script a_k) (fun r => Ret K [] B H (enc r) Q) (fun _ => False)
abbrev s__law_cell_at : Stmt := top 13
theorem sc__law_cell_at : FnScope ["_law_script", "_law_k"] ["_law_script", "_law_k"] (defScope s__law_cell_at) := ⟨rfl, rfl, rfl, by decide +kernel, rfl, by decide +kernel, by decide +kernel⟩
/-! ### _law_digit -/
def l_digit (a_state : (List Int)) (a_base : Int) : Res (Int × (List Int)) :=
  ((if (decide ((a_state.length : Int) = 1)) = true then (ixR a_state 0).bind fun x12 => guardR (a_state.length + ([(x12 % 2147483647), 0] : List Int).length ≤ 1000000) <| .ok (a_state ++ ([(x12 % 2147483647), 0] : List Int)) else .ok a_state) : Res ((List Int))).bind fun a26 => (ixR a26 0).bind fun x34 => (if (decide (a_base ≤ x34)) = true then (ixR a26 0).bind fun x42 => guardR (0 < a_base) <| lt ((x42 % a_base) : Int) fun x46 => (ixR a26 0).bind fun x51 => guardR (CDivW x51 a_base) <| (setR a26 0 (x51 / a_base)).bind fun x55 => .ok (x46, x55) else (ixR a26 2).bind fun x64 => (setR a26 2 (x64 + 1)).bind fun x68 => (ixR x68 1).bind fun x77 => (ixR x68 2).bind fun x85 => lt (((((x77 + (7919 * x85)) + 1) * 48271) % 2147483647) : Int) fun x89 => guardR (CMulW x89 ((x89 / 1009) + 69621)) <| lt (((x89 * ((x89 / 1009) + 69621)) % 2147483647) : Int) fun x90 => guardR (CMulW x90 ((x90 / 2003) + 40692)) <| guardR (0 < a_base) <| .ok ((((x90 * ((x90 / 2003) + 40692)) % 2147483399) % a_base), x68))
def sp__law_digit (K : PySem.W.Frag) : Sp := fun vs H Q _ => ∃ (B : Hp) (p_state : Addr) (a_state : (List Int)) (a_base : Int), Ex B H ∧ vs = [.ref p_state, .int a_base] ∧ Mu K B H p_state (a_state.map enc) ∧ Post (l_digit a_state a_base) (fun r => RetM K p_state B H (enc r.1) (r.2.map enc) Q) (fun _ => False)
abbrev s__law_digit : Stmt := top 14
theorem sc__law_digit : FnScope ["_law_state", "_law_base", "_law_found", "_law_number"] ["_law_state", "_law_base"] (defScope s__law_digit) := ⟨rfl, rfl, rfl, by decide +kernel, rfl, by decide +kernel, by decide +kernel⟩
/-! ### _law_drawn -/
def l_drawn (a_state : (List Int)) (a_ahead : (List (Tp2 Int Int))) : Res ((Tp2 Int Int) × (List Int)) :=
  (l_digit a_state 6).bind fun x1 => (l_digit x1.2 2).bind fun x12 => (ixR ([10, 1000000] : List Int) x12.1).bind fun x22 => (l_digit x12.2 x22).bind fun x26 => (l_digit x26.2 2).bind fun x37 => (ixR ([1, (-1)] : List Int) x37.1).bind fun x47 => guardR (CMulW x26.1 x47) <| lt ((x26.1 * x47) : Int) fun x51 => (l_digit x37.2 2).bind fun x57 => (ixR ([12, 1000000] : List Int) x57.1).bind fun x67 => (l_digit x57.2 x67).bind fun x71 => lt ((1 + x71.1) : Int) fun x77 => ((if (decide (x1.1 = 0)) = true then guardR (okEq (enc a_ahead) (enc ([] : List D))) <| .ok (!(eqD (enc a_ahead) (enc ([] : List D)))) else .ok false) : Res Bool).bind fun b90 => (if b90 = true then (l_digit x71.2 (a_ahead.length : Int)).bind fun x98 => (ixR a_ahead x98.1).bind fun x108 => .ok (x108, x98.2) else ((if (decide (x1.1 = 1)) = true then guardR (okEq (enc a_ahead) (enc ([] : List D))) <| .ok (!(eqD (enc a_ahead) (enc ([] : List D)))) else .ok false) : Res Bool).bind fun b124 => (if b124 = true then (l_digit x71.2 (a_ahead.length : Int)).bind fun x132 => (ixR a_ahead x132.1).bind fun x142 => .ok ((⟨(0 - x142.a), x142.b⟩ : (Tp2 Int Int)), x132.2) else guardR (CMulW x51 (b2z (!decide (x1.1 = 2)))) <| .ok ((⟨(x51 * (b2z (!decide (x1.1 = 2)))), x77⟩ : (Tp2 Int Int)), x71.2)))
def sp__law_drawn (K : PySem.W.Frag) : Sp := fun vs H Q _ => ∃ (B : Hp) (p_state : Addr) (a_state : (List Int)) (v_ahead : V) (a_ahead : (List (Tp2 Int Int))), Ex B H ∧ vs = [.ref p_state, v_ahead] ∧ Mu K B H p_state (a_state.map enc) ∧ Bor K B H [p_state] v_ahead (a_ahead.map enc) ∧ Post (l_drawn a_state a_ahead) (fun r => RetM K p_state B H (enc r.1) (r.2.map enc) Q) (fun _ => False)
abbrev s__law_drawn : Stmt := top 15
theorem sc__law_drawn : FnScope ["_law_state", "_law_ahead", "_law_way", "_law_top", "_law_bottom", "_law_one"] ["_law_state", "_law_ahead"] (defScope s__law_drawn) := ⟨rfl, rfl, rfl, by decide +kernel, rfl, by decide +kernel, by decide +kernel⟩
/-! ### _law_mixed -/
def l_mixed (a_state : (List Int)) (a_things : (List (Tp2 Int Int))) : Res ((List (Tp2 Int Int)) × (List Int)) :=
  (whileR (a_things.length + 1) ((([] : List (Tp2 Int Int)), a_things, a_state) : (List (Tp2 Int Int)) × (List (Tp2 Int Int)) × (List Int)) (fun (a29 : (List (Tp2 Int Int)) × (List (Tp2 Int Int)) × (List Int)) => guardR (okEq (enc a29.2.1) (enc ([] : List D))) <| (if (!(eqD (enc a29.2.1) (enc ([] : List D)))) = true then (l_digit a29.2.2 (a29.2.1.length : Int)).bind fun x46 => (popR a29.2.1 x46.1).bind fun x54 => guardR (a29.1.length < 1000000) <| .ok (.nx ((a29.1 ++ [x54.1]), x54.2, x46.2)) else .ok (.bk (a29.1, a29.2.1, a29.2.2))))).bind (afterR fun a63 => .ok (a63.1, a63.2.2))
def sp__law_mixed (K : PySem.W.Frag) : Sp := fun vs H Q _ => ∃ (B : Hp) (p_state : Addr) (a_state : (List Int)) (v_things : V) (a_things : (List (Tp2 Int Int))), Ex B H ∧ vs = [.ref p_state, v_things] ∧ Mu K B H p_state (a_state.map enc) ∧ Rep K B v_things (enc a_things) ∧ Post (l_mixed a_state a_things) (fun r => RetM K p_state B H (enc r.1) (r.2.map enc) Q) (fun _ => False)
abbrev s__law_mixed : Stmt := top 16
theorem sc__law_mixed : FnScope ["_law_state", "_law_things", "_law_left", "_law_found"] ["_law_state", "_law_things"] (defScope s__law_mixed) := ⟨rfl, rfl, rfl, by decide +kernel, rfl, by decide +kernel, by decide +kernel⟩
/-! ### _law_sum -/
def l_sum (a_some : (List (Tp2 Int Int))) : Res (Tp2 Int Int) :=
  (forR (a_some) ((⟨0, 1⟩ : (Tp2 Int Int)) : (Tp2 Int Int)) (fun x18 (a17 : (Tp2 Int Int)) => ((m_plus a17 x18).noErr).bind fun x27 => .ok (.nx x27))).bind (afterR fun a33 => .ok a33)
def sp__law_sum (K : PySem.W.Frag) : Sp := fun vs H Q _ => ∃ (B : Hp) (v_some : V) (a_some : (List (Tp2 Int Int))), Ex B H ∧ vs = [v_some] ∧ Rep K B v_some (enc a_some) ∧ Post (l_sum a_some) (fun r => Ret K [] B H (enc r) Q) (fun _ => False)
abbrev s__law_sum : Stmt := top 17
theorem sc__law_sum : FnScope ["_law_some", "_law_found", "_law_one"] ["_law_some"] (defScope s__law_sum) := ⟨rfl, rfl, rfl, by decide +kernel, rfl, by decide +kernel, by decide +kernel⟩
/-! ### _law_product -/
def l_product (a_some : (List (Tp2 Int Int))) : Res (Tp2 Int Int) :=
  (forR (a_some) ((⟨1, 1⟩ : (Tp2 Int Int)) : (Tp2 Int Int)) (fun x18 (a17 : (Tp2 Int Int)) => ((m_times a17 x18).noErr).bind fun x27 => .ok (.nx x27))).bind (afterR fun a33 => .ok a33)
def sp__law_product (K : PySem.W.Frag) : Sp := fun vs H Q _ => ∃ (B : Hp) (v_some : V) (a_some : (List (Tp2 Int Int))), Ex B H ∧ vs = [v_some] ∧ Rep K B v_some (enc a_some) ∧ Post (l_product a_some) (fun r => Ret K [] B H (enc r) Q) (fun _ => False)
abbrev s__law_product : Stmt := top 18
theorem sc__law_product : FnScope ["_law_some", "_law_found", "_law_one"] ["_law_some"] (defScope s__law_product) := ⟨rfl, rfl, rfl, by decide +kernel, rfl, by decide +kernel, by decide +kernel⟩
/-! ### _law_worth -/
def l_worth (a_pairs : (List (Tp2 Int Int))) : Res (Tp2 Int Int) :=
  (forR (a_pairs) (1 : Int) (fun x13 (a12 : Int) => guardR (CMulW a12 x13.b) <| lt ((a12 * x13.b) : Int) fun x26 => .ok (.nx x26))).bind (afterR fun a27 => (compR (a_pairs) (() : Unit) (fun x39 (a43 : Unit) => guardR (CDivW a27 x39.b) <| guardR (CMulW x39.a (a27 / x39.b)) <| .ok (some (x39.a * (a27 / x39.b)), ()))).bind <| un2 fun acc42 a43 => .ok (⟨acc42.sum, a27⟩ : (Tp2 Int Int)))
def sp__law_worth (K : PySem.W.Frag) : Sp := fun vs H Q _ => ∃ (B : Hp) (v_pairs : V) (a_pairs : (List (Tp2 Int Int))), Ex B H ∧ vs = [v_pairs] ∧ Bor K B H [] v_pairs (a_pairs.map enc) ∧ Post (l_worth a_pairs) (fun r => Ret K [] B H (enc r) Q) (fun _ => False)
abbrev s__law_worth : Stmt := top 19
theorem sc__law_worth : FnScope ["_law_pairs", "_law_bottom", "_law_pair"] ["_law_pairs"] (defScope s__law_worth) := ⟨rfl, rfl, rfl, by decide +kernel, rfl, by decide +kernel, by decide +kernel⟩
/-! ### _law_lowest -/
def l_lowest (a_top : Int) (a_bottom : Int) : Res (Tp2 Int Int) :=
  lt ((absI a_top) : Int) fun x1 => (whileR (a_bottom.natAbs + 1) ((x1, a_bottom) : Int × Int) (fun (a11 : Int × Int) => (if (decide (0 < a11.2)) = true then guardR (0 < a11.2) <| lt ((a11.1 % a11.2) : Int) fun x15 => .ok (.nx (a11.2, x15)) else .ok (.bk (a11.1, a11.2))))).bind (afterR fun a16 => guardR (CDivW a_top a16.1) <| guardR (CDivW a_bottom a16.1) <| .ok (⟨(a_top / a16.1), (a_bottom / a16.1)⟩ : (Tp2 Int Int)))
def sp__law_lowest (K : PySem.W.Frag) : Sp := fun vs H Q _ => ∃ (B : Hp) (a_top : Int) (a_bottom : Int), Ex B H ∧ vs = [.int a_top, .int a_bottom] ∧ Post (l_lowest a_top a_bottom) (fun r => Ret K [] B H (enc r) Q) (fun _ => False)
abbrev s__law_lowest : Stmt := top 20
theorem sc__law_lowest : FnScope ["_law_top", "_law_bottom", "_law_one", "_law_other"] ["_law_top", "_law_bottom"] (defScope s__law_lowest) := ⟨rfl, rfl, rfl, by decide +kernel, rfl, by decide +kernel, by decide +kernel⟩
/-! ### _law_order_right -/
def l_order_right (a_some : (List (Tp2 Int Int))) : Res Bool :=
  (forR (a_some) (() : Unit) (fun x13 (a12 : Unit) => (forR (a_some) (() : Unit) (fun x34 (a33 : Unit) => guardR (CMulW x13.a x34.b) <| guardR (CMulW x34.a x13.b) <| lt ((decide ((x13.a * x34.b) < (x34.a * x13.b))) : Bool) fun x66 => (m_less x13 x34).bind fun x67 => (if (!decide (x67 = x66)) = true then .ok (.rt (.rt false)) else ((m_minus x13 x34).noErr).bind fun x73 => (if (!decide ((decide (x73.a < 0)) = x66)) = true then .ok (.rt (.rt false)) else (m_less x34 x13).bind fun x85 => guardR (okEq (enc x13) (enc x34)) <| (if (!decide (((b2z x66 + b2z x85) + b2z (eqD (enc x13) (enc x34))) = 1)) = true then .ok (.rt (.rt false)) else .ok (.nx ())))))).bind (afterR fun a91 => .ok (.nx ())))).bind (afterR fun a97 => .ok true)
def sp__law_order_right (K : PySem.W.Frag) : Sp := fun vs H Q _ => ∃ (B : Hp) (v_some : V) (a_some : (List (Tp2 Int Int))), Ex B H ∧ vs = [v_some] ∧ Rep K B v_some (enc a_some) ∧ Post (l_order_right a_some) (fun r => Ret K [] B H (enc r) Q) (fun _ => False)
abbrev s__law_order_right : Stmt := top 21
theorem sc__law_order_right : FnScope ["_law_some", "_law_one", "_law_other", "_law_ahead"] ["_law_some"] (defScope s__law_order_right) := ⟨rfl, rfl, rfl, by decide +kernel, rfl, by decide +kernel, by decide +kernel⟩
/-! ### law -/
def m_law (a_script : (List Int)) : Res Bool :=
  guardR (a_script.length + ([0, 1] : List Int).length ≤ 1000000) <| (forR ((cutL (a_script ++ ([0, 1] : List Int)) none (some 12))) (([] : List (Tp2 Int Int)) : (List (Tp2 Int Int))) (fun x46 (a45 : (List (Tp2 Int Int))) => (l_drawn ([x46] : List Int) a45).bind fun x61 => guardR (a45.length < 1000000) <| .ok (.nx (a45 ++ [x61.1])))).bind (afterR fun a69 => (compR (a69) (() : Unit) (fun x81 (a85 : Unit) => ((m_fraction (enc (x81.a : Int)) (enc (x81.b : Int))).noErr).bind fun x106 => .ok (some x106, ()))).bind <| un2 fun acc84 a85 => (l_worth a69).bind fun x120 => (l_cell_at a_script 0).bind fun x134 => (l_digit ([(x134 + 1)] : List Int) ((acc84.length : Int) + 1)).bind fun x151 => (l_sum acc84).bind fun x157 => (l_lowest x120.a x120.b).bind fun x163 => guardR (okEq (enc x157) (enc x163)) <| (if (!(eqD (enc x157) (enc x163))) = true then .ok false else (l_sum (cutL acc84 none (some x151.1))).bind fun x178 => (l_sum (cutL acc84 (some x151.1) none)).bind fun x193 => ((m_plus x178 x193).noErr).bind fun x199 => guardR (okEq (enc x199) (enc x157)) <| (if (!(eqD (enc x199) (enc x157))) = true then .ok false else (l_mixed x151.2 acc84).bind fun x205 => (l_sum x205.1).bind fun x211 => guardR (okEq (enc x211) (enc x157)) <| (if (!(eqD (enc x211) (enc x157))) = true then .ok false else (l_sum (acc84.reverse)).bind fun x226 => guardR (okEq (enc x226) (enc x157)) <| (if (!(eqD (enc x226) (enc x157))) = true then .ok false else (l_product acc84).bind fun x232 => (l_mixed x205.2 acc84).bind fun x238 => (l_product x238.1).bind fun x244 => guardR (okEq (enc x244) (enc x232)) <| (if (!(eqD (enc x244) (enc x232))) = true then .ok false else (l_order_right acc84).bind fun x250 => (if x250 = true then (forR (a69) (1 : Int) (fun x268 (a267 : Int) => guardR (CMulW a267 x268.a) <| lt ((a267 * x268.a) : Int) fun x281 => .ok (.nx x281))).bind (afterR fun a282 => (l_lowest a282 x120.b).bind fun x287 => guardR (okEq (enc x232) (enc x287)) <| (if (!(eqD (enc x232) (enc x287))) = true then .ok false else (l_product (cutL acc84 none (some x151.1))).bind fun x302 => (l_product (cutL acc84 (some x151.1) none)).bind fun x317 => ((m_times x302 x317).noErr).bind fun x323 => guardR (okEq (enc x323) (enc x232)) <| (if (!(eqD (enc x323) (enc x232))) = true then .ok false else (compR (acc84) (() : Unit) (fun x336 (a340 : Unit) => (ixR acc84 0).bind fun x358 => ((m_times x358 x336).noErr).bind fun x362 => .ok (some x362, ()))).bind <| un2 fun acc339 a340 => (l_sum acc339).bind fun x376 => (ixR acc84 0).bind fun x386 => ((m_times x386 x157).noErr).bind fun x390 => guardR (okEq (enc x376) (enc x390)) <| (if (!(eqD (enc x376) (enc x390))) = true then .ok false else (compR (acc84) (() : Unit) (fun x403 (a407 : Unit) => (m_floor x403).bind fun x421 => .ok (some x421, ()))).bind <| un2 fun acc406 a407 => (m_floor x157).bind fun x439 => (if (decide (acc406.sum ≤ x439)) = true then .ok (decide (x439 < (acc406.sum + (acc84.length : Int)))) else .ok false))))) else .ok false)))))))
def sp_law (K : PySem.W.Frag) : Sp := fun vs H Q _ => ∃ (B : Hp) (v_script : V) (a_script : (List Int)), Ex B H ∧ vs = [v_script] ∧ Bor K B H [] v_script (a_script.map enc) ∧ Post (m_law a_script) (fun r => Ret K [] B H (enc r) Q) (fun _ => False)
abbrev s_law : Stmt := top 22
theorem sc_law : FnScope ["_law_script", "_law_pairs", "_law_cell", "_law_some", "_law_top", "_law_bottom", "_law_under", "_law_state", "_law_half", "_law_found", "_law_product_here", "_law_tops", "_law_pair", "_law_spread", "_law_one", "_law_low"] ["_law_script"] (defScope s_law) := ⟨rfl, rfl, rfl, by decide +kernel, rfl, by decide +kernel, by decide +kernel⟩
section
variable {Pr : Program} {wo : World} {K : PySem.W.Frag} {mg : Str → Option Value} {base : Heap}
theorem ok_divisor {f : Addr} {fd : FuncData}  (F : Fun K "divisor" "divisor" s_divisor f fd) (bI_abs : mg "abs" = none) : FnOk Pr wo K mg base CX0 1 f fd ["one", "other"] (sp_divisor K) := by
  refine F.ok sc_divisor (fun vs H Q E h => ?_) (fun cdv A outer s H0 vs Q E hr h => ?_)
  · obtain ⟨_, _, _, _, rfl, _⟩ := h; rfl
  · obtain ⟨B0, a_one, a_other, w, rfl, P⟩ := h
    have w0 := w
    have hu := hu_of hr
    have hu64 := hu64_of hr
    refine ⟨_, (pss_cons (ps_set (i := 0) sc_divisor.nd rfl (by first | exact Or.inl rfl | exact Or.inr rfl) (pe_callB cr_abs (by rfl) bI_abs PyProof.Rows.boot_abs (pa_cons (pv 0) pa_nil)))
      (pss_cons (ps_set (i := 1) sc_divisor.nd rfl (by first | exact Or.inl rfl | exact Or.inr rfl) (pe_callB cr_abs (by rfl) bI_abs PyProof.Rows.boot_abs (pa_cons (pv 1) pa_nil)))
      (pss_cons (ps_while PassesOwn.never (pt_cmpR op_gt (pv 1) pe_int (nomark _)) (pss_one (ps_par rfl sc_divisor.nd (i := 0) (j := 1) rfl rfl (by decide) rfl rfl (pa_cons (pv 1) (pa_cons (pe_op op_mod (pv 0) (pv 1)) pa_nil)) rfl)))
      (pss_one (ps_ret (pv 0)))))), ?_⟩
    unfold m_divisor at P
    have st := Stp.refl (W := []) w
    refine h_set ?_
    refine h_cb ?_
    refine h_cons ?_
    refine h_var rfl ?_
    refine h_nil ?_
    refine h_abs ?_
    replace P := P.lt
    generalize hx : (absI a_one) = x1 at P ⊢
    refine h_set ?_
    refine h_cb ?_
    refine h_cons ?_
    refine h_var rfl ?_
    refine h_nil ?_
    refine h_abs ?_
    replace P := P.lt
    generalize hx : (absI a_other) = x2 at P ⊢
    refine h_seq ?_
    have wj4 := w
    have sj3 := Stp.refl (W := []) w
    refine h_while P (fun (a : Int × Int) σ' H' => ∃ (B' : Hp), Stp [] B0 H0 B' H' ∧ σ' = [some (.int a.1), some (.int a.2)]) ⟨_, sj3, rfl⟩ ?_ ?_
    · rintro N5 C6 T7 a12 _ H14 ⟨B13, s15, rfl⟩ kn8 kk9 kr10 kb11 P
      replace st := st.go s15 go0
      replace w := s15.ok
      have sj3 := s15
      refine h_test ?_
      refine h_op ?_
      refine h_var rfl ?_
      refine h_c ?_
      refine h_I0 ?_
      refine h_bl ?_
      refine h_ite (fun c1 => ?_) (fun c1 => ?_)
      · replace P := P.iteT c1
        refine ⟨N5, kn8, ?_⟩
        refine h_par ?_
        refine h_cons ?_
        refine h_var rfl ?_
        refine h_cons ?_
        refine h_op ?_
        refine h_var rfl ?_
        refine h_var rfl ?_
        obtain ⟨gd, P⟩ := P.guard
        refine h_I gd ?_
        refine h_nil ?_
        refine h_two ?_
        replace P := P.lt
        generalize hx : (a12.1 % a12.2) = x16 at P ⊢
        refine h_nx ?_
        exact kk9 (a12.2, x16) _ _ ⟨_, sj3, rfl⟩ P.ok
      · replace P := P.iteF c1
        exact kb11 (a12.1, a12.2) _ _ ⟨_, sj3, rfl⟩ P.ok
    · rintro a17 _ H19 ⟨B18, s20, rfl⟩ P
      replace st := st.go s20 go0
      replace w := s20.ok
      refine h_nx ?_
      refine h_ret ?_
      refine h_var rfl ?_
      exact P.ok _ _ _ st (Rep.int _)
theorem ok_is_number {f : Addr} {fd : FuncData}  (F : Fun K "is_number" "is_number" s_is_number f fd) (bI_isinstance : mg "isinstance" = none) (bI_int : mg "int" = none) (bI_bool : mg "bool" = none) : FnOk Pr wo K mg base CX0 1 f fd ["thing"] (sp_is_number K) := by
  refine F.ok sc_is_number (fun vs H Q E h => ?_) (fun cdv A outer s H0 vs Q E hr h => ?_)
  · obtain ⟨_, _, _, _, rfl, _⟩ := h; rfl
  · obtain ⟨B0, v_thing, a_thing, w, rfl, r_thing, P⟩ := h
    have w0 := w
    have hu := hu_of hr
    have hu64 := hu64_of hr
    refine ⟨_, (pss_one (ps_ret (pe_and (pe_callB (r := rIsi K) call_isi (by rfl) bI_isinstance PyProof.Rows.boot_isinstance (pa_cons (pv 0) (pa_cons (pe_bltn (v := .ty "int") (by rfl) bI_int Y.boot_int rfl) pa_nil))) (pe_one (pe_not (pe_callB (r := rIsi K) call_isi (by rfl) bI_isinstance PyProof.Rows.boot_isinstance (pa_cons (pv 0) (pa_cons (pe_bltn (v := .ty "bool") (by rfl) bI_bool Y.boot_bool rfl) pa_nil)))))))), ?_⟩
    unfold m_is_number at P
    have st := Stp.refl (W := []) w
    refine h_ret ?_
    refine h_and ?_
    refine h_cb ?_
    refine h_cons ?_
    refine h_var rfl ?_
    refine h_cons ?_
    refine h_c ?_
    refine h_nil ?_
    refine isi (t := "int") w (r_thing.mono st.ex) ?_
    refine h_bl ?_
    refine h_ite (fun c1 => ?_) (fun c1 => ?_)
    · replace P := P.iteT c1
      refine h_not ?_
      refine h_cb ?_
      refine h_cons ?_
      refine h_var rfl ?_
      refine h_cons ?_
      refine h_c ?_
      refine h_nil ?_
      refine isi (t := "bool") w (r_thing.mono st.ex) ?_
      refine h_bl ?_
      exact P.ok _ _ _ st (Rep.bl _)
    · replace P := P.iteF c1
      exact P.ok _ _ _ st (Rep.bl _)
theorem ok_fraction {f : Addr} {fd : FuncData} {tk_fraction_bottom : Tok} (F : FunV K "fraction" "fraction" s_fraction [.int 1 tk_fraction_bottom] f fd) {C_NoFraction : Addr} (T_NoFraction : ExcR K mg "NoFraction" C_NoFraction) {f_divisor : Addr} {d_divisor : FuncData} (g_divisor : mg "divisor" = some (.ref f_divisor)) (k_divisor : PySem.W.keepIn K (.ref f_divisor) = true) (b_divisor : L2.Binds K d_divisor ["one", "other"] []) (G_divisor : FnOk Pr wo K mg base CX0 1 f_divisor d_divisor ["one", "other"] (sp_divisor K)) {f_is_number : Addr} {d_is_number : FuncData} (g_is_number : mg "is_number" = some (.ref f_is_number)) (k_is_number : PySem.W.keepIn K (.ref f_is_number) = true) (b_is_number : L2.Binds K d_is_number ["thing"] []) (G_is_number : FnOk Pr wo K mg base CX0 1 f_is_number d_is_number ["thing"] (sp_is_number K)) : FnOk Pr wo K mg base (L2.CX Pr wo) 2 f fd ["top", "bottom"] (sp_fraction K mg) := by
  refine F.okX sc_fraction (fun vs H Q E h => ?_) (fun cdv A outer s H0 vs Q E hr h => ?_)
  · obtain ⟨_, _, _, _, _, _, rfl, _⟩ := h; rfl
  · obtain ⟨B0, v_top, a_top, v_bottom, a_bottom, w, rfl, r_top, r_bottom, P⟩ := h
    have w0 := w
    have hu := hu_of hr
    have hu64 := hu64_of hr
    have hr1 : Room 1 _ := hr.mono (by decide)
    refine ⟨_, (pss_cons (ps_if (PW.pt (pw_or (pt_not (pt_val (pe_call G_is_number hr1 rfl g_is_number k_is_number b_is_number .nil pass0 (pa_cons (pv 0) pa_nil)))) (pw_or (pt_not (pt_val (pe_call G_is_number hr1 rfl g_is_number k_is_number b_is_number .nil pass0 (pa_cons (pv 1) pa_nil)))) (pw_or1 (pt_cmpR (r := rEqD K) (op_eqD hu64) (pv 1) pe_int (nomark _)))))) (pss_one (ps_raise rfl (takes_of rfl rfl rfl rfl) (pmk_own PySem.F.excBase_ValueError T_NoFraction.ex T_NoFraction.g T_NoFraction.kp (raises_own T_NoFraction.ec.hs T_NoFraction.ty) rfl))) pss_nil)
      (pss_cons (ps_set (i := 2) sc_fraction.nd rfl (by first | exact Or.inl rfl | exact Or.inr rfl) (pe_call G_divisor hr1 rfl g_divisor k_divisor b_divisor .nil pass0 (pa_cons (pv 0) (pa_cons (pv 1) pa_nil))))
      (pss_cons (ps_if (pt_cmpR op_lt (pv 1) pe_int (nomark _)) (pss_one (ps_set (i := 2) sc_fraction.nd rfl (by first | exact Or.inl rfl | exact Or.inr rfl) (pe_un un_neg (pv 2)))) pss_nil)
      (pss_one (ps_ret (pe_tup (pa_cons (pe_op op_fdivZ (pv 0) (pv 2)) (pa_cons (pe_op op_fdivZ (pv 1) (pv 2)) pa_nil)))))))), ?_⟩
    unfold m_fraction at P
    have st := Stp.refl (W := []) w
    refine h_seq <| h_if ?_
    refine h_tor ?_
    refine h_tnot ?_
    refine h_tB ?_
    refine h_call ?_
    refine h_cons ?_
    refine h_var rfl ?_
    refine h_nil ?_
    refine ⟨B0, v_top, a_top, w, rfl, (r_top.mono st.ex), (P.bind.noErr).mono (fun x1 P => ?_) (fun _ z => z.elim)⟩
    refine fun v5 B2 H3 s4 r6 => ?_
    replace st := st.go s4 go0
    replace w := s4.ok
    cases r6
    refine h_bl ?_
    refine h_iteN (fun c1 => ?_) (fun c1 => ?_)
    · replace P := P.iteF c1
      refine h_iteT ?_
      exact P.err _ _ _ T_NoFraction.g st
    · replace P := P.iteT c1
      refine h_tor ?_
      refine h_tnot ?_
      refine h_tB ?_
      refine h_call ?_
      refine h_cons ?_
      refine h_var rfl ?_
      refine h_nil ?_
      refine ⟨B2, v_bottom, a_bottom, w, rfl, (r_bottom.mono st.ex), (P.bind.noErr).mono (fun x7 P => ?_) (fun _ z => z.elim)⟩
      refine fun v11 B8 H9 s10 r12 => ?_
      replace st := st.go s10 go0
      replace w := s10.ok
      cases r12
      refine h_bl ?_
      refine h_iteN (fun c1 => ?_) (fun c1 => ?_)
      · replace P := P.iteF c1
        refine h_iteT ?_
        exact P.err _ _ _ T_NoFraction.g st
      · replace P := P.iteT c1
        refine h_test ?_
        refine h_op ?_
        refine h_var rfl ?_
        refine h_c ?_
        obtain ⟨gd, P⟩ := P.guard
        refine h_eqD (d := a_bottom) (e := (enc (0 : Int))) w (r_bottom.mono st.ex) (Rep.int _) gd ?_
        refine h_bl ?_
        refine h_ite (fun c1 => ?_) (fun c1 => ?_)
        · replace P := P.iteT c1
          exact P.err _ _ _ T_NoFraction.g st
        · replace P := P.iteF c1
          refine h_next ?_
          refine h_nx ?_
          refine h_set ?_
          refine h_call ?_
          refine h_cons ?_
          refine h_var rfl ?_
          refine h_cons ?_
          refine h_var rfl ?_
          refine h_nil ?_
          obtain ⟨i13, hi14, P⟩ := P.asI
          have rc15 := (r_top.mono st.ex)
          rw [hi14] at rc15
          cases rc15
          obtain ⟨i16, hi17, P⟩ := P.asI
          have rc18 := (r_bottom.mono st.ex)
          rw [hi17] at rc18
          cases rc18
          refine ⟨B8, i13, i16, w, rfl, (P.bind.noErr).mono (fun x19 P => ?_) (fun _ z => z.elim)⟩
          refine fun v23 B20 H21 s22 r24 => ?_
          replace st := st.go s22 go0
          replace w := s22.ok
          cases r24
          have wj26 := w
          have sj25 := Stp.refl (W := []) w
          refine h_joinS P (fun (a : Int) σ' H' => ∃ (B' : Hp), Stp [] B20 H21 B' H' ∧ σ' = [some (.int i13), some (.int i16), some (.int a)]) (fun N kk27 P => h_if ?_) ?_
          · skip
            refine h_test ?_
            refine h_op ?_
            refine h_var rfl ?_
            refine h_c ?_
            refine h_I0 ?_
            refine h_bl ?_
            refine h_ite (fun c1 => ?_) (fun c1 => ?_)
            · replace P := P.iteT c1
              refine h_set1 ?_
              refine h_un ?_
              refine h_var rfl ?_
              refine h_U ?_
              replace P := P.lt
              generalize hx : (-x19) = x28 at P ⊢
              refine h_nx ?_
              exact kk27 x28 _ _ ⟨_, sj25, rfl⟩ P.ok
            · replace P := P.iteF c1
              refine h_next ?_
              refine h_nx ?_
              exact kk27 x19 _ _ ⟨_, sj25, rfl⟩ P.ok
          rintro a29 _ H31 ⟨B30, s32, rfl⟩ P
          replace st := st.go s32 go0
          replace w := s32.ok
          refine h_ret ?_
          refine h_tup ?_
          refine h_cons ?_
          refine h_op ?_
          refine h_var rfl ?_
          refine h_var rfl ?_
          obtain ⟨gd, P⟩ := P.guard
          refine h_I gd ?_
          refine h_cons ?_
          refine h_op ?_
          refine h_var rfl ?_
          refine h_var rfl ?_
          obtain ⟨gd, P⟩ := P.guard
          refine h_I gd ?_
          refine h_nil ?_
          refine h_newT w (K := K) (.cons (Rep.int _) (.cons (Rep.int _) .nil)) (fun p33 B34 H35 s36 r37 => ?_) (by show 2 ≤ sizeLine; decide)
          replace st := st.go s36 go0
          replace w := s36.ok
          replace r37 : Rep K B34 (.ref p33) (enc (⟨(Int.fdiv i13 a29), (Int.fdiv i16 a29)⟩ : (Tp2 Int Int))) := r37
          exact P.ok _ _ _ st r37
theorem ok_plus {f : Addr} {fd : FuncData}  (F : Fun K "plus" "plus" s_plus f fd) {f_fraction : Addr} {d_fraction : FuncData} (g_fraction : mg "fraction" = some (.ref f_fraction)) (k_fraction : PySem.W.keepIn K (.ref f_fraction) = true) (b_fraction : L2.Binds K d_fraction ["top", "bottom"] []) (G_fraction : FnOk Pr wo K mg base (L2.CX Pr wo) 2 f_fraction d_fraction ["top", "bottom"] (sp_fraction K mg)) : FnOk Pr wo K mg base (L2.CX Pr wo) 3 f fd ["one", "other"] (sp_plus K mg) := by
  refine F.okX sc_plus (fun vs H Q E h => ?_) (fun cdv A outer s H0 vs Q E hr h => ?_)
  · obtain ⟨_, _, _, _, _, _, rfl, _⟩ := h; rfl
  · obtain ⟨B0, v_one, a_one, v_other, a_other, w, rfl, r_one, r_other, P⟩ := h
    have w0 := w
    have hu := hu_of hr
    have hu64 := hu64_of hr
    have hr2 : Room 2 _ := hr.mono (by decide)
    refine ⟨_, (pss_one (ps_ret (pe_callS G_fraction hr2 rfl g_fraction k_fraction b_fraction (fun σ => passAt (takes_of rfl rfl rfl rfl) σ) (pa_cons (pe_op op_add (pe_op op_mulW (pe_ix (r := rIxT K) ix_tup (pv 0) pe_int (fun _ _ => rfl)) (pe_ix (r := rIxT K) ix_tup (pv 1) pe_int (fun _ _ => rfl))) (pe_op op_mulW (pe_ix (r := rIxT K) ix_tup (pv 1) pe_int (fun _ _ => rfl)) (pe_ix (r := rIxT K) ix_tup (pv 0) pe_int (fun _ _ => rfl)))) (pa_cons (pe_op op_mulW (pe_ix (r := rIxT K) ix_tup (pv 0) pe_int (fun _ _ => rfl)) (pe_ix (r := rIxT K) ix_tup (pv 1) pe_int (fun _ _ => rfl))) pa_nil))))), ?_⟩
    unfold m_plus at P
    have st := Stp.refl (W := []) w
    refine h_ret ?_
    refine h_callS ?_
    refine h_cons ?_
    refine h_op ?_
    refine h_op ?_
    refine h_op ?_
    refine h_var rfl ?_
    refine h_c ?_
    obtain ⟨p1, xs2, rfl, hs3, hr4⟩ := Rep.st w (r_one.mono st.ex)
    obtain ⟨u5, hu, r6⟩ := RepL.at hr4 (i := 0) rfl
    refine h_ixT hs3 hu ?_
    cases r6
    refine h_op ?_
    refine h_var rfl ?_
    refine h_c ?_
    obtain ⟨p7, xs8, rfl, hs9, hr10⟩ := Rep.st w (r_other.mono st.ex)
    obtain ⟨u11, hu, r12⟩ := RepL.at hr10 (i := 1) rfl
    refine h_ixT hs9 hu ?_
    cases r12
    obtain ⟨gd, P⟩ := P.guard
    refine h_I gd ?_
    refine h_op ?_
    refine h_op ?_
    refine h_var rfl ?_
    refine h_c ?_
    obtain ⟨p13, xs14, hv, hs15, hr16⟩ := Rep.st w (r_other.mono st.ex)
    cases hv
    obtain ⟨u17, hu, r18⟩ := RepL.at hr16 (i := 0) rfl
    refine h_ixT hs15 hu ?_
    cases r18
    refine h_op ?_
    refine h_var rfl ?_
    refine h_c ?_
    obtain ⟨p19, xs20, hv, hs21, hr22⟩ := Rep.st w (r_one.mono st.ex)
    cases hv
    obtain ⟨u23, hu, r24⟩ := RepL.at hr22 (i := 1) rfl
    refine h_ixT hs21 hu ?_
    cases r24
    obtain ⟨gd, P⟩ := P.guard
    refine h_I gd ?_
    refine h_I0 ?_
    refine h_cons ?_
    refine h_op ?_
    refine h_op ?_
    refine h_var rfl ?_
    refine h_c ?_
    obtain ⟨p25, xs26, hv, hs27, hr28⟩ := Rep.st w (r_one.mono st.ex)
    cases hv
    obtain ⟨u29, hu, r30⟩ := RepL.at hr28 (i := 1) rfl
    refine h_ixT hs27 hu ?_
    cases r30
    refine h_op ?_
    refine h_var rfl ?_
    refine h_c ?_
    obtain ⟨p31, xs32, hv, hs33, hr34⟩ := Rep.st w (r_other.mono st.ex)
    cases hv
    obtain ⟨u35, hu, r36⟩ := RepL.at hr34 (i := 1) rfl
    refine h_ixT hs33 hu ?_
    cases r36
    obtain ⟨gd, P⟩ := P.guard
    refine h_I gd ?_
    refine h_nil ?_
    refine ⟨B0, .int ((a_one.a * a_other.b) + (a_other.a * a_one.b)), (enc (((a_one.a * a_other.b) + (a_other.a * a_one.b)) : Int)), .int (a_one.b * a_other.b), (enc ((a_one.b * a_other.b) : Int)), w, rfl, (Rep.int _), (Rep.int _), Post.mono2 P.bind (fun e43 P => ?_) (fun x37 P => ?_)⟩
    · skip
      exact fun C B' H' g s => P C B' H' g (st.go s go0)
    refine fun v41 B38 H39 s40 r42 => ?_
    replace st := st.go s40 go0
    replace w := s40.ok
    exact P.ok _ _ _ st r42
theorem ok_minus {f : Addr} {fd : FuncData}  (F : Fun K "minus" "minus" s_minus f fd) {f_fraction : Addr} {d_fraction : FuncData} (g_fraction : mg "fraction" = some (.ref f_fraction)) (k_fraction : PySem.W.keepIn K (.ref f_fraction) = true) (b_fraction : L2.Binds K d_fraction ["top", "bottom"] []) (G_fraction : FnOk Pr wo K mg base (L2.CX Pr wo) 2 f_fraction d_fraction ["top", "bottom"] (sp_fraction K mg)) : FnOk Pr wo K mg base (L2.CX Pr wo) 3 f fd ["one", "other"] (sp_minus K mg) := by
  refine F.okX sc_minus (fun vs H Q E h => ?_) (fun cdv A outer s H0 vs Q E hr h => ?_)
  · obtain ⟨_, _, _, _, _, _, rfl, _⟩ := h; rfl
  · obtain ⟨B0, v_one, a_one, v_other, a_other, w, rfl, r_one, r_other, P⟩ := h
    have w0 := w
    have hu := hu_of hr
    have hu64 := hu64_of hr
    have hr2 : Room 2 _ := hr.mono (by decide)
    refine ⟨_, (pss_one (ps_ret (pe_callS G_fraction hr2 rfl g_fraction k_fraction b_fraction (fun σ => passAt (takes_of rfl rfl rfl rfl) σ) (pa_cons (pe_op op_sub (pe_op op_mulW (pe_ix (r := rIxT K) ix_tup (pv 0) pe_int (fun _ _ => rfl)) (pe_ix (r := rIxT K) ix_tup (pv 1) pe_int (fun _ _ => rfl))) (pe_op op_mulW (pe_ix (r := rIxT K) ix_tup (pv 1) pe_int (fun _ _ => rfl)) (pe_ix (r := rIxT K) ix_tup (pv 0) pe_int (fun _ _ => rfl)))) (pa_cons (pe_op op_mulW (pe_ix (r := rIxT K) ix_tup (pv 0) pe_int (fun _ _ => rfl)) (pe_ix (r := rIxT K) ix_tup (pv 1) pe_int (fun _ _ => rfl))) pa_nil))))), ?_⟩
    unfold m_minus at P
    have st := Stp.refl (W := []) w
    refine h_ret ?_
    refine h_callS ?_
    refine h_cons ?_
    refine h_op ?_
    refine h_op ?_
    refine h_op ?_
    refine h_var rfl ?_
    refine h_c ?_
    obtain ⟨p1, xs2, rfl, hs3, hr4⟩ := Rep.st w (r_one.mono st.ex)
    obtain ⟨u5, hu, r6⟩ := RepL.at hr4 (i := 0) rfl
    refine h_ixT hs3 hu ?_
    cases r6
    refine h_op ?_
    refine h_var rfl ?_
    refine h_c ?_
    obtain ⟨p7, xs8, rfl, hs9, hr10⟩ := Rep.st w (r_other.mono st.ex)
    obtain ⟨u11, hu, r12⟩ := RepL.at hr10 (i := 1) rfl
    refine h_ixT hs9 hu ?_
    cases r12
    obtain ⟨gd, P⟩ := P.guard
    refine h_I gd ?_
    refine h_op ?_
    refine h_op ?_
    refine h_var rfl ?_
    refine h_c ?_
    obtain ⟨p13, xs14, hv, hs15, hr16⟩ := Rep.st w (r_other.mono st.ex)
    cases hv
    obtain ⟨u17, hu, r18⟩ := RepL.at hr16 (i := 0) rfl
    refine h_ixT hs15 hu ?_
    cases r18
    refine h_op ?_
    refine h_var rfl ?_
    refine h_c ?_
    obtain ⟨p19, xs20, hv, hs21, hr22⟩ := Rep.st w (r_one.mono st.ex)
    cases hv
    obtain ⟨u23, hu, r24⟩ := RepL.at hr22 (i := 1) rfl
    refine h_ixT hs21 hu ?_
    cases r24
    obtain ⟨gd, P⟩ := P.guard
    refine h_I gd ?_
    refine h_I0 ?_
    refine h_cons ?_
    refine h_op ?_
    refine h_op ?_
    refine h_var rfl ?_
    refine h_c ?_
    obtain ⟨p25, xs26, hv, hs27, hr28⟩ := Rep.st w (r_one.mono st.ex)
    cases hv
    obtain ⟨u29, hu, r30⟩ := RepL.at hr28 (i := 1) rfl
    refine h_ixT hs27 hu ?_
    cases r30
    refine h_op ?_
    refine h_var rfl ?_
    refine h_c ?_
    obtain ⟨p31, xs32, hv, hs33, hr34⟩ := Rep.st w (r_other.mono st.ex)
    cases hv
    obtain ⟨u35, hu, r36⟩ := RepL.at hr34 (i := 1) rfl
    refine h_ixT hs33 hu ?_
    cases r36
    obtain ⟨gd, P⟩ := P.guard
    refine h_I gd ?_
    refine h_nil ?_
    refine ⟨B0, .int ((a_one.a * a_other.b) - (a_other.a * a_one.b)), (enc (((a_one.a * a_other.b) - (a_other.a * a_one.b)) : Int)), .int (a_one.b * a_other.b), (enc ((a_one.b * a_other.b) : Int)), w, rfl, (Rep.int _), (Rep.int _), Post.mono2 P.bind (fun e43 P => ?_) (fun x37 P => ?_)⟩
    · skip
      exact fun C B' H' g s => P C B' H' g (st.go s go0)
    refine fun v41 B38 H39 s40 r42 => ?_
    replace st := st.go s40 go0
    replace w := s40.ok
    exact P.ok _ _ _ st r42
theorem ok_times {f : Addr} {fd : FuncData}  (F : Fun K "times" "times" s_times f fd) {f_fraction : Addr} {d_fraction : FuncData} (g_fraction : mg "fraction" = some (.ref f_fraction)) (k_fraction : PySem.W.keepIn K (.ref f_fraction) = true) (b_fraction : L2.Binds K d_fraction ["top", "bottom"] []) (G_fraction : FnOk Pr wo K mg base (L2.CX Pr wo) 2 f_fraction d_fraction ["top", "bottom"] (sp_fraction K mg)) : FnOk Pr wo K mg base (L2.CX Pr wo) 3 f fd ["one", "other"] (sp_times K mg) := by
  refine F.okX sc_times (fun vs H Q E h => ?_) (fun cdv A outer s H0 vs Q E hr h => ?_)
  · obtain ⟨_, _, _, _, _, _, rfl, _⟩ := h; rfl
  · obtain ⟨B0, v_one, a_one, v_other, a_other, w, rfl, r_one, r_other, P⟩ := h
    have w0 := w
    have hu := hu_of hr
    have hu64 := hu64_of hr
    have hr2 : Room 2 _ := hr.mono (by decide)
    refine ⟨_, (pss_one (ps_ret (pe_callS G_fraction hr2 rfl g_fraction k_fraction b_fraction (fun σ => passAt (takes_of rfl rfl rfl rfl) σ) (pa_cons (pe_op op_mulW (pe_ix (r := rIxT K) ix_tup (pv 0) pe_int (fun _ _ => rfl)) (pe_ix (r := rIxT K) ix_tup (pv 1) pe_int (fun _ _ => rfl))) (pa_cons (pe_op op_mulW (pe_ix (r := rIxT K) ix_tup (pv 0) pe_int (fun _ _ => rfl)) (pe_ix (r := rIxT K) ix_tup (pv 1) pe_int (fun _ _ => rfl))) pa_nil))))), ?_⟩
    unfold m_times at P
    have st := Stp.refl (W := []) w
    refine h_ret ?_
    refine h_callS ?_
    refine h_cons ?_
    refine h_op ?_
    refine h_op ?_
    refine h_var rfl ?_
    refine h_c ?_
    obtain ⟨p1, xs2, rfl, hs3, hr4⟩ := Rep.st w (r_one.mono st.ex)
    obtain ⟨u5, hu, r6⟩ := RepL.at hr4 (i := 0) rfl
    refine h_ixT hs3 hu ?_
    cases r6
    refine h_op ?_
    refine h_var rfl ?_
    refine h_c ?_
    obtain ⟨p7, xs8, rfl, hs9, hr10⟩ := Rep.st w (r_other.mono st.ex)
    obtain ⟨u11, hu, r12⟩ := RepL.at hr10 (i := 0) rfl
    refine h_ixT hs9 hu ?_
    cases r12
    obtain ⟨gd, P⟩ := P.guard
    refine h_I gd ?_
    refine h_cons ?_
    refine h_op ?_
    refine h_op ?_
    refine h_var rfl ?_
    refine h_c ?_
    obtain ⟨p13, xs14, hv, hs15, hr16⟩ := Rep.st w (r_one.mono st.ex)
    cases hv
    obtain ⟨u17, hu, r18⟩ := RepL.at hr16 (i := 1) rfl
    refine h_ixT hs15 hu ?_
    cases r18
    refine h_op ?_
    refine h_var rfl ?_
    refine h_c ?_
    obtain ⟨p19, xs20, hv, hs21, hr22⟩ := Rep.st w (r_other.mono st.ex)
    cases hv
    obtain ⟨u23, hu, r24⟩ := RepL.at hr22 (i := 1) rfl
    refine h_ixT hs21 hu ?_
    cases r24
    obtain ⟨gd, P⟩ := P.guard
    refine h_I gd ?_
    refine h_nil ?_
    refine ⟨B0, .int (a_one.a * a_other.a), (enc ((a_one.a * a_other.a) : Int)), .int (a_one.b * a_other.b), (enc ((a_one.b * a_other.b) : Int)), w, rfl, (Rep.int _), (Rep.int _), Post.mono2 P.bind (fun e31 P => ?_) (fun x25 P => ?_)⟩
    · skip
      exact fun C B' H' g s => P C B' H' g (st.go s go0)
    refine fun v29 B26 H27 s28 r30 => ?_
    replace st := st.go s28 go0
    replace w := s28.ok
    exact P.ok _ _ _ st r30
theorem ok_less {f : Addr} {fd : FuncData}  (F : Fun K "less" "less" s_less f fd)  : FnOk Pr wo K mg base CX0 1 f fd ["one", "other"] (sp_less K) := by
  refine F.ok sc_less (fun vs H Q E h => ?_) (fun cdv A outer s H0 vs Q E hr h => ?_)
  · obtain ⟨_, _, _, _, _, _, rfl, _⟩ := h; rfl
  · obtain ⟨B0, v_one, a_one, v_other, a_other, w, rfl, r_one, r_other, P⟩ := h
    have w0 := w
    have hu := hu_of hr
    have hu64 := hu64_of hr
    refine ⟨_, (pss_one (ps_ret (pe_cmpR op_lt (pe_op op_mulW (pe_ix (r := rIxT K) ix_tup (pv 0) pe_int (fun _ _ => rfl)) (pe_ix (r := rIxT K) ix_tup (pv 1) pe_int (fun _ _ => rfl))) (pe_op op_mulW (pe_ix (r := rIxT K) ix_tup (pv 1) pe_int (fun _ _ => rfl)) (pe_ix (r := rIxT K) ix_tup (pv 0) pe_int (fun _ _ => rfl))) (nomark _)))), ?_⟩
    unfold m_less at P
    have st := Stp.refl (W := []) w
    refine h_ret ?_
    refine h_op ?_
    refine h_op ?_
    refine h_op ?_
    refine h_var rfl ?_
    refine h_c ?_
    obtain ⟨p1, xs2, rfl, hs3, hr4⟩ := Rep.st w (r_one.mono st.ex)
    obtain ⟨u5, hu, r6⟩ := RepL.at hr4 (i := 0) rfl
    refine h_ixT hs3 hu ?_
    cases r6
    refine h_op ?_
    refine h_var rfl ?_
    refine h_c ?_
    obtain ⟨p7, xs8, rfl, hs9, hr10⟩ := Rep.st w (r_other.mono st.ex)
    obtain ⟨u11, hu, r12⟩ := RepL.at hr10 (i := 1) rfl
    refine h_ixT hs9 hu ?_
    cases r12
    obtain ⟨gd, P⟩ := P.guard
    refine h_I gd ?_
    refine h_op ?_
    refine h_op ?_
    refine h_var rfl ?_
    refine h_c ?_
    obtain ⟨p13, xs14, hv, hs15, hr16⟩ := Rep.st w (r_other.mono st.ex)
    cases hv
    obtain ⟨u17, hu, r18⟩ := RepL.at hr16 (i := 0) rfl
    refine h_ixT hs15 hu ?_
    cases r18
    refine h_op ?_
    refine h_var rfl ?_
    refine h_c ?_
    obtain ⟨p19, xs20, hv, hs21, hr22⟩ := Rep.st w (r_one.mono st.ex)
    cases hv
    obtain ⟨u23, hu, r24⟩ := RepL.at hr22 (i := 1) rfl
    refine h_ixT hs21 hu ?_
    cases r24
    obtain ⟨gd, P⟩ := P.guard
    refine h_I gd ?_
    refine h_I0 ?_
    exact P.ok _ _ _ st (Rep.bl _)
theorem ok_floor {f : Addr} {fd : FuncData}  (F : Fun K "floor" "floor" s_floor f fd)  : FnOk Pr wo K mg base CX0 1 f fd ["one"] (sp_floor K) := by
  refine F.ok sc_floor (fun vs H Q E h => ?_) (fun cdv A outer s H0 vs Q E hr h => ?_)
  · obtain ⟨_, _, _, _, rfl, _⟩ := h; rfl
  · obtain ⟨B0, v_one, a_one, w, rfl, r_one, P⟩ := h
    have w0 := w
    have hu := hu_of hr
    have hu64 := hu64_of hr
    refine ⟨_, (pss_one (ps_ret (pe_op op_fdivW (pe_ix (r := rIxT K) ix_tup (pv 0) pe_int (fun _ _ => rfl)) (pe_ix (r := rIxT K) ix_tup (pv 0) pe_int (fun _ _ => rfl))))), ?_⟩
    unfold m_floor at P
    have st := Stp.refl (W := []) w
    refine h_ret ?_
    refine h_op ?_
    refine h_op ?_
    refine h_var rfl ?_
    refine h_c ?_
    obtain ⟨p1, xs2, rfl, hs3, hr4⟩ := Rep.st w (r_one.mono st.ex)
    obtain ⟨u5, hu, r6⟩ := RepL.at hr4 (i := 0) rfl
    refine h_ixT hs3 hu ?_
    cases r6
    refine h_op ?_
    refine h_var rfl ?_
    refine h_c ?_
    obtain ⟨p7, xs8, hv, hs9, hr10⟩ := Rep.st w (r_one.mono st.ex)
    cases hv
    obtain ⟨u11, hu, r12⟩ := RepL.at hr10 (i := 1) rfl
    refine h_ixT hs9 hu ?_
    cases r12
    obtain ⟨gd, P⟩ := P.guard
    refine h_I gd ?_
    exact P.ok _ _ _ st (Rep.int _)
theorem ok__law_cell_at {f : Addr} {fd : FuncData}  (F : Fun K "_law_cell_at" "_law_cell_at" s__law_cell_at f fd) (bI_len : mg "len" = none) : FnOk Pr wo K mg base CX0 1 f fd ["_law_script", "_law_k"] (sp__law_cell_at K) := by
  refine F.ok sc__law_cell_at (fun vs H Q E h => ?_) (fun cdv A outer s H0 vs Q E hr h => ?_)
  · obtain ⟨_, _, _, _, _, rfl, _⟩ := h; rfl
  · obtain ⟨B0, v_script, a_script, a_k, w, rfl, r_script, P⟩ := h
    have w0 := w
    have hu := hu_of hr
    have hu64 := hu64_of hr
    refine ⟨_, (pss_cons (ps_if (pt_cmpR op_lt (pv 1) (pe_callB (r := rLenY K) cr_len (by rfl) bI_len PySem.boot_len (pa_cons (pv 0) pa_nil)) (nomark _)) (pss_one (ps_ret (pe_ix (r := rIxL K) ix_list (pv 0) (pv 1) (fun _ _ => rfl)))) pss_nil)
      (pss_one (ps_ret pe_int))), ?_⟩
    unfold l_cell_at at P
    have st := Stp.refl (W := []) w
    refine h_seq <| h_if ?_
    refine h_test ?_
    refine h_op ?_
    refine h_var rfl ?_
    refine h_cb ?_
    refine h_cons ?_
    refine h_var rfl ?_
    refine h_nil ?_
    obtain ⟨p1, xs2, rfl, hs3, hr4⟩ := Bor.sq (r_script.step st)
    refine h_len hs3 hr4 ?_
    refine h_I0 ?_
    refine h_bl ?_
    refine h_ite (fun c1 => ?_) (fun c1 => ?_)
    · replace P := P.iteT c1
      refine h_ret ?_
      refine h_op ?_
      refine h_var rfl ?_
      refine h_var rfl ?_
      obtain ⟨p5, xs6, hv, hs7, hr8⟩ := Bor.sq (r_script.step st)
      cases hv
      obtain ⟨x9, hx10, P⟩ := P.ix
      obtain ⟨u11, hu, r12⟩ := RepL.atE hr8 hx10
      refine h_ixL hs7 hu ?_
      cases r12
      exact P.ok _ _ _ st (Rep.int _)
    · replace P := P.iteF c1
      refine h_next ?_
      refine h_nx ?_
      refine h_ret ?_
      refine h_c ?_
      exact P.ok _ _ _ st (Rep.int _)
theorem ok__law_digit {f : Addr} {fd : FuncData}  (F : Fun K "_law_digit" "_law_digit" s__law_digit f fd) (bI_len : mg "len" = none) : FnOk Pr wo K mg base CX0 1 f fd ["_law_state", "_law_base"] (sp__law_digit K) := by
  refine F.ok sc__law_digit (fun vs H Q E h => ?_) (fun cdv A outer s H0 vs Q E hr h => ?_)
  · obtain ⟨_, _, _, _, _, rfl, _⟩ := h; rfl
  · obtain ⟨B0, p_state, a_state, a_base, w, rfl, m_state, P⟩ := h
    have w0 := w
    have hu := hu_of hr
    have hu64 := hu64_of hr
    refine ⟨_, (pss_cons (ps_if (pt_cmpR op_eq (pe_callB (r := rLenY K) cr_len (by rfl) bI_len PySem.boot_len (pa_cons (pv 0) pa_nil)) pe_int (nomark _)) (pss_one (ps_expr (pe_bm PySem.F.plainAttrs_list PySem.F.slot_list_extend PySem.F.type_list_extend mt_extend (pv 0) (pa_cons (pe_lst (pa_cons (pe_op op_mod (pe_ix (r := rIxL K) ix_list (pv 0) pe_int (fun _ _ => rfl)) pe_int) (pa_cons pe_int pa_nil))) pa_nil)))) pss_nil)
      (pss_cons (ps_if (pt_cmpR op_ge (pe_ix (r := rIxL K) ix_list (pv 0) pe_int (fun _ _ => rfl)) (pv 1) (nomark _)) (pss_cons (ps_set (i := 2) sc__law_digit.nd rfl (by first | exact Or.inl rfl | exact Or.inr rfl) (pe_op op_mod (pe_ix (r := rIxL K) ix_list (pv 0) pe_int (fun _ _ => rfl)) (pv 1)))
      (pss_cons (ps_asg (pe_op op_fdivW (pe_ix (r := rIxL K) ix_list (pv 0) pe_int (fun _ _ => rfl)) (pv 1)) (pg_sub (pv 0) pe_int set_list))
      (pss_one (ps_ret (pv 2))))) pss_nil)
      (pss_cons (ps_asg (pe_op op_add (pe_ix (r := rIxL K) ix_list (pv 0) pe_int (fun _ _ => rfl)) pe_int) (pg_sub (pv 0) pe_int set_list))
      (pss_cons (ps_set (i := 3) sc__law_digit.nd rfl (by first | exact Or.inl rfl | exact Or.inr rfl) (pe_op op_mod (pe_op op_mul (pe_op op_add (pe_op op_add (pe_ix (r := rIxL K) ix_list (pv 0) pe_int (fun _ _ => rfl)) (pe_op op_mul pe_int (pe_ix (r := rIxL K) ix_list (pv 0) pe_int (fun _ _ => rfl)))) pe_int) pe_int) pe_int))
      (pss_cons (ps_set (i := 3) sc__law_digit.nd rfl (by first | exact Or.inl rfl | exact Or.inr rfl) (pe_op op_mod (pe_op op_mulW (pv 3) (pe_op op_add (pe_op op_fdiv (pv 3) pe_int) pe_int)) pe_int))
      (pss_one (ps_ret (pe_op op_mod (pe_op op_mod (pe_op op_mulW (pv 3) (pe_op op_add (pe_op op_fdiv (pv 3) pe_int) pe_int)) pe_int) (pv 1))))))))), ?_⟩
    unfold l_digit at P
    have st := Stp.refl (W := [p_state]) w
    have wj2 := w
    have sj1 := Stp.refl (W := [p_state]) w
    refine h_joinS P (fun (a : (List Int)) σ' H' => ∃ (B' : Hp), Stp [p_state] B0 H0 B' H' ∧ σ' = [some ((.ref p_state)), some (.int a_base), none, none] ∧ Mu K B' H' p_state (a.map enc)) (fun N kk3 P => h_if ?_) ?_
    · skip
      refine h_test ?_
      refine h_op ?_
      refine h_cb ?_
      refine h_cons ?_
      refine h_var rfl ?_
      refine h_nil ?_
      obtain ⟨xs5, hv, hs6, hr7⟩ := Mu.sq m_state
      refine h_len hs6 hr7 ?_
      refine h_c ?_
      refine h_eqI ?_
      refine h_bl ?_
      refine h_ite (fun c1 => ?_) (fun c1 => ?_)
      · replace P := P.iteT c1
        refine h_drop ?_
        refine h_bm ?_
        refine h_var rfl ?_
        refine h_bmL m_state ?_
        refine h_cons ?_
        refine h_lst ?_
        refine h_cons ?_
        refine h_op ?_
        refine h_op ?_
        refine h_var rfl ?_
        refine h_c ?_
        obtain ⟨xs9, hv, hs10, hr11⟩ := Mu.sq m_state
        obtain ⟨x12, hx13, P⟩ := P.ix
        obtain ⟨u14, hu, r15⟩ := RepL.atE hr11 hx13
        refine h_ixL hs10 hu ?_
        cases r15
        refine h_c ?_
        refine h_I (by decide +kernel) ?_
        refine h_cons ?_
        refine h_c ?_
        refine h_nil ?_
        refine h_newM w (ds := (([(x12 % 2147483647), 0] : List Int)).map enc) (K := K) (.cons (Rep.int _) (.cons (Rep.int _) .nil)) (fun p16 H17 hn20 s18 m19 => ?_) (by show 2 ≤ sizeLine; decide)
        have n21 := st.nn hn20
        have n22 := sj1.nn hn20
        have ne23 := Mu.ne m_state hn20
        replace m_state := m_state.step s18 nm0
        replace st := st.go s18 go0
        replace sj1 := sj1.go s18 go0
        replace w := s18.ok
        refine h_nil ?_
        obtain ⟨gd, P⟩ := P.guard
        refine h_extend w m_state m19 gd (fun H24 s25 m_state => ?_)
        replace st := st.go s25 (go1 (.inl (by simp)))
        replace sj1 := sj1.go s25 (go1 (.inl (by simp)))
        replace w := s25.ok
        refine h_nx ?_
        exact kk3 (a_state ++ ([(x12 % 2147483647), 0] : List Int)) _ _ ⟨_, sj1, rfl, m_state⟩ P.ok
      · replace P := P.iteF c1
        refine h_next ?_
        refine h_nx ?_
        exact kk3 a_state _ _ ⟨_, sj1, rfl, m_state⟩ P.ok
    rintro a26 _ H28 ⟨B27, s29, rfl, m_state⟩ P
    replace st := st.go s29 (go1 (.inl (by simp)))
    replace w := s29.ok
    refine h_seq <| h_if ?_
    refine h_test ?_
    refine h_op ?_
    refine h_op ?_
    refine h_var rfl ?_
    refine h_c ?_
    obtain ⟨xs31, hv, hs32, hr33⟩ := Mu.sq m_state
    obtain ⟨x34, hx35, P⟩ := P.ix
    obtain ⟨u36, hu, r37⟩ := RepL.atE hr33 hx35
    refine h_ixL hs32 hu ?_
    cases r37
    refine h_var rfl ?_
    refine h_I0 ?_
    refine h_bl ?_
    refine h_ite (fun c1 => ?_) (fun c1 => ?_)
    · replace P := P.iteT c1
      refine h_set ?_
      refine h_op ?_
      refine h_op ?_
      refine h_var rfl ?_
      refine h_c ?_
      obtain ⟨xs39, hv, hs40, hr41⟩ := Mu.sq m_state
      obtain ⟨x42, hx43, P⟩ := P.ix
      obtain ⟨u44, hu, r45⟩ := RepL.atE hr41 hx43
      refine h_ixL hs40 hu ?_
      cases r45
      refine h_var rfl ?_
      obtain ⟨gd, P⟩ := P.guard
      refine h_I gd ?_
      replace P := P.lt
      generalize hx : (x42 % a_base) = x46 at P ⊢
      refine h_seq ?_
      refine h_asg ?_
      refine h_op ?_
      refine h_op ?_
      refine h_var rfl ?_
      refine h_c ?_
      obtain ⟨xs48, hv, hs49, hr50⟩ := Mu.sq m_state
      obtain ⟨x51, hx52, P⟩ := P.ix
      obtain ⟨u53, hu, r54⟩ := RepL.atE hr50 hx52
      refine h_ixL hs49 hu ?_
      cases r54
      refine h_var rfl ?_
      obtain ⟨gd, P⟩ := P.guard
      refine h_I gd ?_
      refine h_sub ?_
      refine h_var rfl ?_
      refine h_c ?_
      obtain ⟨j56, hj57, P⟩ := P.set
      refine h_setL (b := (x51 / a_base)) w m_state (Rep.int _) hj57 (fun H58 s59 m_state => ?_)
      replace st := st.go s59 (go1 (.inl (by simp)))
      replace w := s59.ok
      generalize hl : List.set a26 j56 (x51 / a_base) = x55 at *
      refine h_nx ?_
      refine h_ret ?_
      refine h_var rfl ?_
      exact P.ok _ _ _ st m_state (Rep.int _)
    · replace P := P.iteF c1
      refine h_next ?_
      refine h_nx ?_
      refine h_seq ?_
      refine h_asg ?_
      refine h_op ?_
      refine h_op ?_
      refine h_var rfl ?_
      refine h_c ?_
      obtain ⟨xs61, hv, hs62, hr63⟩ := Mu.sq m_state
      obtain ⟨x64, hx65, P⟩ := P.ix
      obtain ⟨u66, hu, r67⟩ := RepL.atE hr63 hx65
      refine h_ixL hs62 hu ?_
      cases r67
      refine h_c ?_
      refine h_I0 ?_
      refine h_sub ?_
      refine h_var rfl ?_
      refine h_c ?_
      obtain ⟨j69, hj70, P⟩ := P.set
      refine h_setL (b := (x64 + 1)) w m_state (Rep.int _) hj70 (fun H71 s72 m_state => ?_)
      replace st := st.go s72 (go1 (.inl (by simp)))
      replace w := s72.ok
      generalize hl : List.set a26 j69 (x64 + 1) = x68 at *
      refine h_nx ?_
      refine h_set ?_
      refine h_op ?_
      refine h_op ?_
      refine h_op ?_
      refine h_op ?_
      refine h_op ?_
      refine h_var rfl ?_
      refine h_c ?_
      obtain ⟨xs74, hv, hs75, hr76⟩ := Mu.sq m_state
      obtain ⟨x77, hx78, P⟩ := P.ix
      obtain ⟨u79, hu, r80⟩ := RepL.atE hr76 hx78
      refine h_ixL hs75 hu ?_
      cases r80
      refine h_op ?_
      refine h_c ?_
      refine h_op ?_
      refine h_var rfl ?_
      refine h_c ?_
      obtain ⟨xs82, hv, hs83, hr84⟩ := Mu.sq m_state
      obtain ⟨x85, hx86, P⟩ := P.ix
      obtain ⟨u87, hu, r88⟩ := RepL.atE hr84 hx86
      refine h_ixL hs83 hu ?_
      cases r88
      refine h_I (.inl ⟨by decide +kernel, by decide +kernel⟩) ?_
      refine h_I0 ?_
      refine h_c ?_
      refine h_I0 ?_
      refine h_c ?_
      refine h_I (.inr ⟨by decide +kernel, by decide +kernel⟩) ?_
      refine h_c ?_
      refine h_I (by decide +kernel) ?_
      replace P := P.lt
      generalize hx : ((((x77 + (7919 * x85)) + 1) * 48271) % 2147483647) = x89 at P ⊢
      refine h_set ?_
      refine h_op ?_
      refine h_op ?_
      refine h_var rfl ?_
      refine h_op ?_
      refine h_op ?_
      refine h_var rfl ?_
      refine h_c ?_
      refine h_I ⟨by decide +kernel, by decide +kernel⟩ ?_
      refine h_c ?_
      refine h_I0 ?_
      obtain ⟨gd, P⟩ := P.guard
      refine h_I gd ?_
      refine h_c ?_
      refine h_I (by decide +kernel) ?_
      replace P := P.lt
      generalize hx : ((x89 * ((x89 / 1009) + 69621)) % 2147483647) = x90 at P ⊢
      refine h_ret ?_
      refine h_op ?_
      refine h_op ?_
      refine h_op ?_
      refine h_var rfl ?_
      refine h_op ?_
      refine h_op ?_
      refine h_var rfl ?_
      refine h_c ?_
      refine h_I ⟨by decide +kernel, by decide +kernel⟩ ?_
      refine h_c ?_
      refine h_I0 ?_
      obtain ⟨gd, P⟩ := P.guard
      refine h_I gd ?_
      refine h_c ?_
      refine h_I (by decide +kernel) ?_
      refine h_var rfl ?_
      obtain ⟨gd, P⟩ := P.guard
      refine h_I gd ?_
      exact P.ok _ _ _ st m_state (Rep.int _)
theorem ok__law_drawn {f : Addr} {fd : FuncData}  (F : Fun K "_law_drawn" "_law_drawn" s__law_drawn f fd) {f__law_digit : Addr} {d__law_digit : FuncData} (g__law_digit : mg "_law_digit" = some (.ref f__law_digit)) (k__law_digit : PySem.W.keepIn K (.ref f__law_digit) = true) (b__law_digit : L2.Binds K d__law_digit ["_law_state", "_law_base"] []) (G__law_digit : FnOk Pr wo K mg base CX0 1 f__law_digit d__law_digit ["_law_state", "_law_base"] (sp__law_digit K)) (bI_int : mg "int" = none) (bI_len : mg "len" = none) : FnOk Pr wo K mg base CX0 2 f fd ["_law_state", "_law_ahead"] (sp__law_drawn K) := by
  refine F.ok sc__law_drawn (fun vs H Q E h => ?_) (fun cdv A outer s H0 vs Q E hr h => ?_)
  · obtain ⟨_, _, _, _, _, _, rfl, _⟩ := h; rfl
  · obtain ⟨B0, p_state, a_state, v_ahead, a_ahead, w, rfl, m_state, r_ahead, P⟩ := h
    have w0 := w
    have hu := hu_of hr
    have hu64 := hu64_of hr
    have hr1 : Room 1 _ := hr.mono (by decide)
    refine ⟨_, (pss_cons (ps_set (i := 2) sc__law_drawn.nd rfl (by first | exact Or.inl rfl | exact Or.inr rfl) (pe_call G__law_digit hr1 rfl g__law_digit k__law_digit b__law_digit .nil pass0 (pa_cons (pv 0) (pa_cons pe_int pa_nil))))
      (pss_cons (ps_set (i := 3) sc__law_drawn.nd rfl (by first | exact Or.inl rfl | exact Or.inr rfl) (pe_op op_mulW (pe_call G__law_digit hr1 rfl g__law_digit k__law_digit b__law_digit .nil pass0 (pa_cons (pv 0) (pa_cons (pe_ix (r := rIxL K) ix_list (pe_lst (pa_cons pe_int (pa_cons (pe_op op_pow pe_int pe_int) pa_nil))) (pe_call G__law_digit hr1 rfl g__law_digit k__law_digit b__law_digit .nil pass0 (pa_cons (pv 0) (pa_cons pe_int pa_nil))) (fun _ _ => rfl)) pa_nil))) (pe_ix (r := rIxL K) ix_list (pe_lst (pa_cons pe_int (pa_cons (pe_un un_neg pe_int) pa_nil))) (pe_call G__law_digit hr1 rfl g__law_digit k__law_digit b__law_digit .nil pass0 (pa_cons (pv 0) (pa_cons pe_int pa_nil))) (fun _ _ => rfl))))
      (pss_cons (ps_set (i := 4) sc__law_drawn.nd rfl (by first | exact Or.inl rfl | exact Or.inr rfl) (pe_op op_add pe_int (pe_call G__law_digit hr1 rfl g__law_digit k__law_digit b__law_digit .nil pass0 (pa_cons (pv 0) (pa_cons (pe_ix (r := rIxL K) ix_list (pe_lst (pa_cons pe_int (pa_cons (pe_op op_pow pe_int pe_int) pa_nil))) (pe_call G__law_digit hr1 rfl g__law_digit k__law_digit b__law_digit .nil pass0 (pa_cons (pv 0) (pa_cons pe_int pa_nil))) (fun _ _ => rfl)) pa_nil)))))
      (pss_cons (ps_if (PW.pt (pw_and (pt_cmpR op_eq (pv 2) pe_int (nomark _)) (pw_and1 (pt_cmpR (r := rNeD K) (op_neD hu64) (pv 1) (pe_lst pa_nil) (nomark _))))) (pss_one (ps_ret (pe_ix (r := rIxL K) ix_list (pv 1) (pe_call G__law_digit hr1 rfl g__law_digit k__law_digit b__law_digit .nil pass0 (pa_cons (pv 0) (pa_cons (pe_callB (r := rLenY K) cr_len (by rfl) bI_len PySem.boot_len (pa_cons (pv 1) pa_nil)) pa_nil))) (fun _ _ => rfl)))) pss_nil)
      (pss_cons (ps_if (PW.pt (pw_and (pt_cmpR op_eq (pv 2) pe_int (nomark _)) (pw_and1 (pt_cmpR (r := rNeD K) (op_neD hu64) (pv 1) (pe_lst pa_nil) (nomark _))))) (pss_cons (ps_set (i := 5) sc__law_drawn.nd rfl (by first | exact Or.inl rfl | exact Or.inr rfl) (pe_ix (r := rIxL K) ix_list (pv 1) (pe_call G__law_digit hr1 rfl g__law_digit k__law_digit b__law_digit .nil pass0 (pa_cons (pv 0) (pa_cons (pe_callB (r := rLenY K) cr_len (by rfl) bI_len PySem.boot_len (pa_cons (pv 1) pa_nil)) pa_nil))) (fun _ _ => rfl)))
      (pss_one (ps_ret (pe_tup (pa_cons (pe_op op_sub pe_int (pe_ix (r := rIxT K) ix_tup (pv 5) pe_int (fun _ _ => rfl))) (pa_cons (pe_ix (r := rIxT K) ix_tup (pv 5) pe_int (fun _ _ => rfl)) pa_nil)))))) pss_nil)
      (pss_one (ps_ret (pe_tup (pa_cons (pe_op op_mulW (pv 3) (pe_callTy cr_int (by rfl) bI_int Y.boot_int (pa_cons (pe_cmpR op_ne (pv 2) pe_int (nomark _)) pa_nil))) (pa_cons (pv 4) pa_nil)))))))))), ?_⟩
    unfold l_drawn at P
    have st := Stp.refl (W := [p_state]) w
    refine h_set ?_
    refine h_call ?_
    refine h_cons ?_
    refine h_var rfl ?_
    refine h_cons ?_
    refine h_c ?_
    refine h_nil ?_
    refine ⟨B0, p_state, a_state, 6, w, rfl, m_state, (P.bind).mono (fun x1 P => ?_) (fun _ z => z)⟩
    refine fun v5 B2 H3 s4 m_state r6 => ?_
    replace st := st.go s4 (go1 (.inl (by simp)))
    replace w := s4.ok
    cases r6
    refine h_set ?_
    refine h_op ?_
    refine h_call ?_
    refine h_cons ?_
    refine h_var rfl ?_
    refine h_cons ?_
    refine h_op ?_
    refine h_lst ?_
    refine h_cons ?_
    refine h_c ?_
    refine h_cons ?_
    refine h_op (h_c (h_c (h_pow (k := 1000000) (by decide +kernel) (by decide +kernel) ?_)))
    refine h_nil ?_
    refine h_newL w (ds := (([10, 1000000] : List Int)).map enc) (K := K) (.cons (Rep.int _) (.cons (Rep.int _) .nil)) (fun p7 B8 H9 s10 r11 => ?_) (by show 2 ≤ sizeLine; decide)
    replace m_state := m_state.step s10 nm0
    replace st := st.go s10 go0
    replace w := s10.ok
    replace r11 : Rep K B8 (.ref p7) (enc ([10, 1000000] : List Int)) := r11
    refine h_call ?_
    refine h_cons ?_
    refine h_var rfl ?_
    refine h_cons ?_
    refine h_c ?_
    refine h_nil ?_
    refine ⟨B8, p_state, x1.2, 2, w, rfl, m_state, (P.bind).mono (fun x12 P => ?_) (fun _ z => z)⟩
    refine fun v16 B13 H14 s15 m_state r17 => ?_
    replace r11 := r11.mono s15.ex
    replace st := st.go s15 (go1 (.inl (by simp)))
    replace w := s15.ok
    cases r17
    obtain ⟨p18, xs19, hv, hs20, hr21⟩ := Rep.sq w r11
    cases hv
    obtain ⟨x22, hx23, P⟩ := P.ix
    obtain ⟨u24, hu, r25⟩ := RepL.atE hr21 hx23
    refine h_ixL hs20 hu ?_
    cases r25
    refine h_nil ?_
    refine ⟨B13, p_state, x12.2, x22, w, rfl, m_state, (P.bind).mono (fun x26 P => ?_) (fun _ z => z)⟩
    refine fun v30 B27 H28 s29 m_state r31 => ?_
    replace st := st.go s29 (go1 (.inl (by simp)))
    replace w := s29.ok
    cases r31
    refine h_op ?_
    refine h_lst ?_
    refine h_cons ?_
    refine h_c ?_
    refine h_cons ?_
    refine h_un ?_
    refine h_c ?_
    refine h_U ?_
    refine h_nil ?_
    refine h_newL w (ds := (([1, (-1)] : List Int)).map enc) (K := K) (.cons (Rep.int _) (.cons (Rep.int _) .nil)) (fun p32 B33 H34 s35 r36 => ?_) (by show 2 ≤ sizeLine; decide)
    replace m_state := m_state.step s35 nm0
    replace st := st.go s35 go0
    replace w := s35.ok
    replace r36 : Rep K B33 (.ref p32) (enc ([1, (-1)] : List Int)) := r36
    refine h_call ?_
    refine h_cons ?_
    refine h_var rfl ?_
    refine h_cons ?_
    refine h_c ?_
    refine h_nil ?_
    refine ⟨B33, p_state, x26.2, 2, w, rfl, m_state, (P.bind).mono (fun x37 P => ?_) (fun _ z => z)⟩
    refine fun v41 B38 H39 s40 m_state r42 => ?_
    replace r36 := r36.mono s40.ex
    replace st := st.go s40 (go1 (.inl (by simp)))
    replace w := s40.ok
    cases r42
    obtain ⟨p43, xs44, hv, hs45, hr46⟩ := Rep.sq w r36
    cases hv
    obtain ⟨x47, hx48, P⟩ := P.ix
    obtain ⟨u49, hu, r50⟩ := RepL.atE hr46 hx48
    refine h_ixL hs45 hu ?_
    cases r50
    obtain ⟨gd, P⟩ := P.guard
    refine h_I gd ?_
    replace P := P.lt
    generalize hx : (x26.1 * x47) = x51 at P ⊢
    refine h_set ?_
    refine h_op ?_
    refine h_c ?_
    refine h_call ?_
    refine h_cons ?_
    refine h_var rfl ?_
    refine h_cons ?_
    refine h_op ?_
    refine h_lst ?_
    refine h_cons ?_
    refine h_c ?_
    refine h_cons ?_
    refine h_op (h_c (h_c (h_pow (k := 1000000) (by decide +kernel) (by decide +kernel) ?_)))
    refine h_nil ?_
    refine h_newL w (ds := (([12, 1000000] : List Int)).map enc) (K := K) (.cons (Rep.int _) (.cons (Rep.int _) .nil)) (fun p52 B53 H54 s55 r56 => ?_) (by show 2 ≤ sizeLine; decide)
    replace m_state := m_state.step s55 nm0
    replace st := st.go s55 go0
    replace w := s55.ok
    replace r56 : Rep K B53 (.ref p52) (enc ([12, 1000000] : List Int)) := r56
    refine h_call ?_
    refine h_cons ?_
    refine h_var rfl ?_
    refine h_cons ?_
    refine h_c ?_
    refine h_nil ?_
    refine ⟨B53, p_state, x37.2, 2, w, rfl, m_state, (P.bind).mono (fun x57 P => ?_) (fun _ z => z)⟩
    refine fun v61 B58 H59 s60 m_state r62 => ?_
    replace r56 := r56.mono s60.ex
    replace st := st.go s60 (go1 (.inl (by simp)))
    replace w := s60.ok
    cases r62
    obtain ⟨p63, xs64, hv, hs65, hr66⟩ := Rep.sq w r56
    cases hv
    obtain ⟨x67, hx68, P⟩ := P.ix
    obtain ⟨u69, hu, r70⟩ := RepL.atE hr66 hx68
    refine h_ixL hs65 hu ?_
    cases r70
    refine h_nil ?_
    refine ⟨B58, p_state, x57.2, x67, w, rfl, m_state, (P.bind).mono (fun x71 P => ?_) (fun _ z => z)⟩
    refine fun v75 B72 H73 s74 m_state r76 => ?_
    replace st := st.go s74 (go1 (.inl (by simp)))
    replace w := s74.ok
    cases r76
    refine h_I0 ?_
    replace P := P.lt
    generalize hx : (1 + x71.1) = x77 at P ⊢
    refine h_seq <| h_if ?_
    have wj79 := w
    have sj78 := Stp.refl (W := []) w
    refine h_condJ P (fun H' => ∃ B', Stp [] B72 H73 B' H') (fun N kk80 P => ?_) ?_
    · skip
      refine h_tand ?_
      refine h_test ?_
      refine h_op ?_
      refine h_var rfl ?_
      refine h_c ?_
      refine h_eqI ?_
      refine h_bl ?_
      refine h_ite (fun c1 => ?_) (fun c1 => ?_)
      · replace P := P.iteT c1
        refine h_test ?_
        refine h_op ?_
        refine h_var rfl ?_
        refine h_lst ?_
        refine h_nil ?_
        refine h_newL w (ds := (([] : List D)).map enc) (K := K) .nil (fun p81 B82 H83 s84 r85 => ?_) (by show 0 ≤ sizeLine; decide)
        replace m_state := m_state.step s84 nm0
        replace st := st.go s84 go0
        replace sj78 := sj78.go s84 go0
        replace w := s84.ok
        replace r85 : Rep K B82 (.ref p81) (enc ([] : List D)) := r85
        obtain ⟨gd, P⟩ := P.guard
        obtain ⟨p86, xs87, rfl, hs88, hr89⟩ := Bor.sq (r_ahead.step st)
        refine h_neC (d := (enc a_ahead)) (e := (enc ([] : List D))) (SqL.cp w hs88 hr89) (Rep.cp w r85) gd ?_
        refine h_bl ?_
        exact kk80 _ _ ⟨_, sj78⟩ P.ok
      · replace P := P.iteF c1
        exact kk80 _ _ ⟨_, sj78⟩ P.ok
    rintro b90 H92 ⟨B91, s93⟩ P
    replace m_state := m_state.step s93 nm0
    replace st := st.go s93 go0
    replace w := s93.ok
    refine h_ite (fun c1 => ?_) (fun c1 => ?_)
    · replace P := P.iteT c1
      refine h_ret ?_
      refine h_op ?_
      refine h_var rfl ?_
      refine h_call ?_
      refine h_cons ?_
      refine h_var rfl ?_
      refine h_cons ?_
      refine h_cb ?_
      refine h_cons ?_
      refine h_var rfl ?_
      refine h_nil ?_
      obtain ⟨p94, xs95, rfl, hs96, hr97⟩ := Bor.sq (r_ahead.step st)
      refine h_len hs96 hr97 ?_
      refine h_nil ?_
      refine ⟨B91, p_state, x71.2, (a_ahead.length : Int), w, rfl, m_state, (P.bind).mono (fun x98 P => ?_) (fun _ z => z)⟩
      refine fun v102 B99 H100 s101 m_state r103 => ?_
      replace st := st.go s101 (go1 (.inl (by simp)))
      replace w := s101.ok
      cases r103
      obtain ⟨p104, xs105, hv, hs106, hr107⟩ := Bor.sq (r_ahead.step st)
      cases hv
      obtain ⟨x108, hx109, P⟩ := P.ix
      obtain ⟨u110, hu, r111⟩ := RepL.atE hr107 hx109
      refine h_ixL hs106 hu ?_
      exact P.ok _ _ _ st m_state r111
    · replace P := P.iteF c1
      refine h_next ?_
      refine h_nx ?_
      refine h_seq <| h_if ?_
      have wj113 := w
      have sj112 := Stp.refl (W := []) w
      refine h_condJ P (fun H' => ∃ B', Stp [] B91 H92 B' H') (fun N kk114 P => ?_) ?_
      · skip
        refine h_tand ?_
        refine h_test ?_
        refine h_op ?_
        refine h_var rfl ?_
        refine h_c ?_
        refine h_eqI ?_
        refine h_bl ?_
        refine h_ite (fun c1 => ?_) (fun c1 => ?_)
        · replace P := P.iteT c1
          refine h_test ?_
          refine h_op ?_
          refine h_var rfl ?_
          refine h_lst ?_
          refine h_nil ?_
          refine h_newL w (ds := (([] : List D)).map enc) (K := K) .nil (fun p115 B116 H117 s118 r119 => ?_) (by show 0 ≤ sizeLine; decide)
          replace m_state := m_state.step s118 nm0
          replace st := st.go s118 go0
          replace sj112 := sj112.go s118 go0
          replace w := s118.ok
          replace r119 : Rep K B116 (.ref p115) (enc ([] : List D)) := r119
          obtain ⟨gd, P⟩ := P.guard
          obtain ⟨p120, xs121, rfl, hs122, hr123⟩ := Bor.sq (r_ahead.step st)
          refine h_neC (d := (enc a_ahead)) (e := (enc ([] : List D))) (SqL.cp w hs122 hr123) (Rep.cp w r119) gd ?_
          refine h_bl ?_
          exact kk114 _ _ ⟨_, sj112⟩ P.ok
        · replace P := P.iteF c1
          exact kk114 _ _ ⟨_, sj112⟩ P.ok
      rintro b124 H126 ⟨B125, s127⟩ P
      replace m_state := m_state.step s127 nm0
      replace st := st.go s127 go0
      replace w := s127.ok
      refine h_ite (fun c1 => ?_) (fun c1 => ?_)
      · replace P := P.iteT c1
        refine h_set ?_
        refine h_op ?_
        refine h_var rfl ?_
        refine h_call ?_
        refine h_cons ?_
        refine h_var rfl ?_
        refine h_cons ?_
        refine h_cb ?_
        refine h_cons ?_
        refine h_var rfl ?_
        refine h_nil ?_
        obtain ⟨p128, xs129, rfl, hs130, hr131⟩ := Bor.sq (r_ahead.step st)
        refine h_len hs130 hr131 ?_
        refine h_nil ?_
        refine ⟨B125, p_state, x71.2, (a_ahead.length : Int), w, rfl, m_state, (P.bind).mono (fun x132 P => ?_) (fun _ z => z)⟩
        refine fun v136 B133 H134 s135 m_state r137 => ?_
        replace st := st.go s135 (go1 (.inl (by simp)))
        replace w := s135.ok
        cases r137
        obtain ⟨p138, xs139, hv, hs140, hr141⟩ := Bor.sq (r_ahead.step st)
        cases hv
        obtain ⟨x142, hx143, P⟩ := P.ix
        obtain ⟨u144, hu, r145⟩ := RepL.atE hr141 hx143
        refine h_ixL hs140 hu ?_
        refine h_ret ?_
        refine h_tup ?_
        refine h_cons ?_
        refine h_op ?_
        refine h_c ?_
        refine h_op ?_
        refine h_var rfl ?_
        refine h_c ?_
        obtain ⟨p146, xs147, rfl, hs148, hr149⟩ := Rep.st w r145
        obtain ⟨u150, hu, r151⟩ := RepL.at hr149 (i := 0) rfl
        refine h_ixT hs148 hu ?_
        cases r151
        refine h_I0 ?_
        refine h_cons ?_
        refine h_op ?_
        refine h_var rfl ?_
        refine h_c ?_
        obtain ⟨p152, xs153, hv, hs154, hr155⟩ := Rep.st w r145
        cases hv
        obtain ⟨u156, hu, r157⟩ := RepL.at hr155 (i := 1) rfl
        refine h_ixT hs154 hu ?_
        cases r157
        refine h_nil ?_
        refine h_newT w (K := K) (.cons (Rep.int _) (.cons (Rep.int _) .nil)) (fun p158 B159 H160 s161 r162 => ?_) (by show 2 ≤ sizeLine; decide)
        replace m_state := m_state.step s161 nm0
        replace r145 := r145.mono s161.ex
        replace st := st.go s161 go0
        replace w := s161.ok
        replace r162 : Rep K B159 (.ref p158) (enc (⟨(0 - x142.a), x142.b⟩ : (Tp2 Int Int))) := r162
        exact P.ok _ _ _ st m_state r162
      · replace P := P.iteF c1
        refine h_next ?_
        refine h_nx ?_
        refine h_ret ?_
        refine h_tup ?_
        refine h_cons ?_
        refine h_op ?_
        refine h_var rfl ?_
        refine h_cb ?_
        refine h_cons ?_
        refine h_op ?_
        refine h_var rfl ?_
        refine h_c ?_
        refine h_neI ?_
        refine h_nil ?_
        refine h_intB ?_
        obtain ⟨gd, P⟩ := P.guard
        refine h_I gd ?_
        refine h_cons ?_
        refine h_var rfl ?_
        refine h_nil ?_
        refine h_newT w (K := K) (.cons (Rep.int _) (.cons (Rep.int _) .nil)) (fun p163 B164 H165 s166 r167 => ?_) (by show 2 ≤ sizeLine; decide)
        replace m_state := m_state.step s166 nm0
        replace st := st.go s166 go0
        replace w := s166.ok
        replace r167 : Rep K B164 (.ref p163) (enc (⟨(x51 * (b2z (!decide (x1.1 = 2)))), x77⟩ : (Tp2 Int Int))) := r167
        exact P.ok _ _ _ st m_state r167
theorem ok__law_mixed {f : Addr} {fd : FuncData}  (F : Fun K "_law_mixed" "_law_mixed" s__law_mixed f fd) {f__law_digit : Addr} {d__law_digit : FuncData} (g__law_digit : mg "_law_digit" = some (.ref f__law_digit)) (k__law_digit : PySem.W.keepIn K (.ref f__law_digit) = true) (b__law_digit : L2.Binds K d__law_digit ["_law_state", "_law_base"] []) (G__law_digit : FnOk Pr wo K mg base CX0 1 f__law_digit d__law_digit ["_law_state", "_law_base"] (sp__law_digit K)) (bI_list : mg "list" = none) (bI_len : mg "len" = none) : FnOk Pr wo K mg base CX0 2 f fd ["_law_state", "_law_things"] (sp__law_mixed K) := by
  refine F.ok sc__law_mixed (fun vs H Q E h => ?_) (fun cdv A outer s H0 vs Q E hr h => ?_)
  · obtain ⟨_, _, _, _, _, _, rfl, _⟩ := h; rfl
  · obtain ⟨B0, p_state, a_state, v_things, a_things, w, rfl, m_state, r_things, P⟩ := h
    have w0 := w
    have hu := hu_of hr
    have hu64 := hu64_of hr
    have hr1 : Room 1 _ := hr.mono (by decide)
    refine ⟨_, (pss_cons (ps_set (i := 2) sc__law_mixed.nd rfl (by first | exact Or.inl rfl | exact Or.inr rfl) (pe_callTy (r := rListY K) cr_list (by rfl) bI_list Y.boot_list (pa_cons (pv 1) pa_nil)))
      (pss_cons (ps_set (i := 3) sc__law_mixed.nd rfl (by first | exact Or.inl rfl | exact Or.inr rfl) (pe_lst pa_nil))
      (pss_cons (ps_while PassesOwn.never (pt_cmpR (r := rNeD K) (op_neD hu64) (pv 2) (pe_lst pa_nil) (nomark _)) (pss_one (ps_expr (pe_bm PySem.F.plainAttrs_list PySem.F.slot_list_append PySem.F.type_list_append mt_append (pv 3) (pa_cons (pe_bm PySem.F.plainAttrs_list PySem.F.slot_list_pop PySem.F.type_list_pop mt_popAt (pv 2) (pa_cons (pe_call G__law_digit hr1 rfl g__law_digit k__law_digit b__law_digit .nil pass0 (pa_cons (pv 0) (pa_cons (pe_callB (r := rLenY K) cr_len (by rfl) bI_len PySem.boot_len (pa_cons (pv 2) pa_nil)) pa_nil))) pa_nil)) pa_nil)))))
      (pss_one (ps_ret (pv 3)))))), ?_⟩
    unfold l_mixed at P
    have st := Stp.refl (W := [p_state]) w
    refine h_set ?_
    refine h_cb ?_
    refine h_cons ?_
    refine h_var rfl ?_
    refine h_nil ?_
    obtain ⟨p1, xs2, rfl, hs3, hr4⟩ := Rep.sq w (r_things.mono st.ex)
    refine h_listL hs3 ?_
    refine h_nwM w (ds := (a_things).map enc) (K := K) hr4 (fun p5 H6 hn9 s7 m8 => ?_) 
    have n10 := st.nn hn9
    have ne11 := Mu.ne m_state hn9
    replace m_state := m_state.step s7 nm0
    replace st := st.go s7 go0
    replace w := s7.ok
    refine h_set ?_
    refine h_lst ?_
    refine h_nil ?_
    refine h_newM w (ds := (([] : List (Tp2 Int Int))).map enc) (K := K) .nil (fun p12 H13 hn16 s14 m15 => ?_) (by show 0 ≤ sizeLine; decide)
    have n17 := st.nn hn16
    have ne18 := Mu.ne m_state hn16
    have ne19 := Mu.ne m8 hn16
    replace m_state := m_state.step s14 nm0
    replace m8 := m8.step s14 nm0
    replace st := st.go s14 go0
    replace w := s14.ok
    refine h_seq ?_
    have wj21 := w
    have sj20 := Stp.refl (W := [p12, p5, p_state]) w
    refine h_while P (fun (a : (List (Tp2 Int Int)) × (List (Tp2 Int Int)) × (List Int)) σ' H' => ∃ (B' : Hp), Stp [p12, p5, p_state] B0 H13 B' H' ∧ σ' = [some ((.ref p_state)), some ((.ref p1)), some ((.ref p5)), some ((.ref p12))] ∧ Mu K B' H' p12 (a.1.map enc) ∧ Mu K B' H' p5 (a.2.1.map enc) ∧ Mu K B' H' p_state (a.2.2.map enc)) ⟨_, sj20, rfl, m15, m8, m_state⟩ ?_ ?_
    · rintro N22 C23 T24 a29 _ H31 ⟨B30, s32, rfl, m15, m8, m_state⟩ kn25 kk26 kr27 kb28 P
      replace st := st.go s32 (go3 (.inr n17) (.inr n10) (.inl (by simp)))
      replace w := s32.ok
      have sj20 := s32
      refine h_test ?_
      refine h_op ?_
      refine h_var rfl ?_
      refine h_lst ?_
      refine h_nil ?_
      refine h_newL w (ds := (([] : List D)).map enc) (K := K) .nil (fun p33 B34 H35 s36 r37 => ?_) (by show 0 ≤ sizeLine; decide)
      replace m_state := m_state.step s36 nm0
      replace m8 := m8.step s36 nm0
      replace m15 := m15.step s36 nm0
      replace st := st.go s36 go0
      replace sj20 := sj20.go s36 go0
      replace w := s36.ok
      replace r37 : Rep K B34 (.ref p33) (enc ([] : List D)) := r37
      obtain ⟨gd, P⟩ := P.guard
      obtain ⟨xs39, hv, hs40, hr41⟩ := Mu.sq m8
      refine h_neC (d := (enc a29.2.1)) (e := (enc ([] : List D))) (SqL.cp w hs40 hr41) (Rep.cp w r37) gd ?_
      refine h_bl ?_
      refine h_ite (fun c1 => ?_) (fun c1 => ?_)
      · replace P := P.iteT c1
        refine ⟨N22, kn25, ?_⟩
        refine h_drop ?_
        refine h_bm ?_
        refine h_var rfl ?_
        refine h_bmL m15 ?_
        refine h_cons ?_
        refine h_bm ?_
        refine h_var rfl ?_
        refine h_bmL m8 ?_
        refine h_cons ?_
        refine h_call ?_
        refine h_cons ?_
        refine h_var rfl ?_
        refine h_cons ?_
        refine h_cb ?_
        refine h_cons ?_
        refine h_var rfl ?_
        refine h_nil ?_
        obtain ⟨xs43, hv, hs44, hr45⟩ := Mu.sq m8
        refine h_len hs44 hr45 ?_
        refine h_nil ?_
        refine ⟨B34, p_state, a29.2.2, (a29.2.1.length : Int), w, rfl, m_state, (P.bind).mono (fun x46 P => ?_) (fun _ z => z)⟩
        refine fun v50 B47 H48 s49 m_state r51 => ?_
        replace m8 := m8.step s49 (nm1 ne11.symm)
        replace m15 := m15.step s49 (nm1 ne18.symm)
        replace st := st.go s49 (go1 (.inl (by simp)))
        replace sj20 := sj20.go s49 (go1 (.inl (by simp)))
        replace w := s49.ok
        cases r51
        refine h_nil ?_
        obtain ⟨y56, hi, hx55, P⟩ := P.pop
        refine h_popL w m8 hi hx55 (fun u58 H52 s53 m8 r59 => ?_)
        replace m_state := m_state.step s53 (nm1 ne11)
        replace m15 := m15.step s53 (nm1 ne19.symm)
        replace st := st.go s53 (go1 (.inr n10))
        replace sj20 := sj20.go s53 (go1 (.inl (by simp)))
        replace w := s53.ok
        generalize hl : (y56, List.eraseIdx a29.2.1 (Int.toNat x46.1)) = x54 at P
        obtain rfl : y56 = x54.1 := by rw [← hl]
        have hl2 : List.eraseIdx a29.2.1 (Int.toNat x46.1) = x54.2 := by rw [← hl]
        rw [hl2] at m8
        refine h_nil ?_
        obtain ⟨gd, P⟩ := P.guard
        refine h_append (b := x54.1) w m15 r59 gd (fun H61 s62 m15 => ?_)
        replace m_state := m_state.step s62 (nm1 ne18)
        replace m8 := m8.step s62 (nm1 ne19)
        replace st := st.go s62 (go1 (.inr n17))
        replace sj20 := sj20.go s62 (go1 (.inl (by simp)))
        replace w := s62.ok
        refine h_nx ?_
        exact kk26 ((a29.1 ++ [x54.1]), x54.2, x46.2) _ _ ⟨_, sj20, rfl, m15, m8, m_state⟩ P.ok
      · replace P := P.iteF c1
        exact kb28 (a29.1, a29.2.1, a29.2.2) _ _ ⟨_, sj20, rfl, m15, m8, m_state⟩ P.ok
    · rintro a63 _ H65 ⟨B64, s66, rfl, m15, m8, m_state⟩ P
      replace st := st.go s66 (go3 (.inr n17) (.inr n10) (.inl (by simp)))
      replace w := s66.ok
      refine h_nx ?_
      refine h_ret ?_
      refine h_var rfl ?_
      obtain ⟨B71, e67, k68, g69, r70⟩ := Mu.keep m15
      replace st := g69 _ _ _ st w0 n17
      replace m_state := m_state.kp e67 k68 ne18
      replace m8 := m8.kp e67 k68 ne19
      replace w := st.ok
      replace r70 : Rep K B71 (.ref p12) (enc a63.1) := r70
      exact P.ok _ _ _ st m_state r70
theorem ok__law_sum {f : Addr} {fd : FuncData}  (F : Fun K "_law_sum" "_law_sum" s__law_sum f fd) {f_plus : Addr} {d_plus : FuncData} (g_plus : mg "plus" = some (.ref f_plus)) (k_plus : PySem.W.keepIn K (.ref f_plus) = true) (b_plus : L2.Binds K d_plus ["one", "other"] []) (G_plus : FnOk Pr wo K mg base (L2.CX Pr wo) 3 f_plus d_plus ["one", "other"] (sp_plus K mg)) : FnOk Pr wo K mg base CX0 4 f fd ["_law_some"] (sp__law_sum K) := by
  refine F.ok sc__law_sum (fun vs H Q E h => ?_) (fun cdv A outer s H0 vs Q E hr h => ?_)
  · obtain ⟨_, _, _, _, rfl, _⟩ := h; rfl
  · obtain ⟨B0, v_some, a_some, w, rfl, r_some, P⟩ := h
    have w0 := w
    have hu := hu_of hr
    have hu64 := hu64_of hr
    have hr3 : Room 3 _ := hr.mono (by decide)
    refine ⟨_, (pss_cons (ps_set (i := 1) sc__law_sum.nd rfl (by first | exact Or.inl rfl | exact Or.inr rfl) (pe_tup (pa_cons pe_int (pa_cons pe_int pa_nil))))
      (pss_cons (ps_for PassesOwn.never rfl (pi_list (pv 0)) (pg_name (i := 2) sc__law_sum.nd rfl (by first | exact Or.inl rfl | exact Or.inr rfl)) (pss_one (ps_set (i := 1) sc__law_sum.nd rfl (by first | exact Or.inl rfl | exact Or.inr rfl) (pe_call G_plus hr3 rfl g_plus k_plus b_plus .nil passL (pa_cons (pv 1) (pa_cons (pv 2) pa_nil))))))
      (pss_one (ps_ret (pv 1))))), ?_⟩
    unfold l_sum at P
    have st := Stp.refl (W := []) w
    refine h_set ?_
    refine h_tup ?_
    refine h_cons ?_
    refine h_c ?_
    refine h_cons ?_
    refine h_c ?_
    refine h_nil ?_
    refine h_newT w (K := K) (.cons (Rep.int _) (.cons (Rep.int _) .nil)) (fun p1 B2 H3 s4 r5 => ?_) (by show 2 ≤ sizeLine; decide)
    replace st := st.go s4 go0
    replace w := s4.ok
    replace r5 : Rep K B2 (.ref p1) (enc (⟨0, 1⟩ : (Tp2 Int Int))) := r5
    refine h_seq ?_
    refine h_forE ?_
    refine h_var rfl ?_
    obtain ⟨p6, xs7, rfl, hb8, hr9⟩ := Rep.sqB (r_some.mono st.ex)
    have wj11 := w
    have sj10 := Stp.refl (W := []) w
    refine h_forL P (w.l hb8) hr9 (fun (a : (Tp2 Int Int)) σ' H' => ∃ (B' : Hp) (v0 : V) (o__law_one : Option V), Stp [] B2 H3 B' H' ∧ σ' = [some ((.ref p6)), some v0, o__law_one] ∧ Rep K B' v0 (enc a)) ⟨_, (.ref p1), _, sj10, rfl, r5⟩ (fun _ _ _ j => ?_) ?_ ?_
    · obtain ⟨B21, v24, o26, s23, rfl, r25⟩ := j
      exact s23.ok.l (s23.ex.l hb8)
    · rintro N12 T13 x18 v19 a17 _ H22 ⟨B21, v24, o26, s23, rfl, r25⟩ r20 kk14 kr15 kb16 P
      replace st := st.go s23 go0
      replace w := s23.ok
      have sj10 := s23
      replace r20 := r20.mono sj10.ex
      refine h_gname ?_
      refine h_set1 ?_
      refine h_call ?_
      refine h_cons ?_
      refine h_var rfl ?_
      refine h_cons ?_
      refine h_var rfl ?_
      refine h_nil ?_
      refine ⟨B21, v24, a17, v19, x18, w, rfl, r25, r20, (P.bind.noErr).mono (fun x27 P => ?_) (fun _ z => z.elim)⟩
      refine fun v31 B28 H29 s30 r32 => ?_
      replace r25 := r25.mono s30.ex
      replace r20 := r20.mono s30.ex
      replace st := st.go s30 go0
      replace sj10 := sj10.go s30 go0
      replace w := s30.ok
      refine h_nx ?_
      exact kk14 x27 _ _ ⟨_, v31, _, sj10, rfl, r32⟩ P.ok
    · rintro a33 _ H35 ⟨B34, v37, o39, s36, rfl, r38⟩ P
      replace st := st.go s36 go0
      replace w := s36.ok
      refine h_nx ?_
      refine h_ret ?_
      refine h_var rfl ?_
      exact P.ok _ _ _ st r38
theorem ok__law_product {f : Addr} {fd : FuncData}  (F : Fun K "_law_product" "_law_product" s__law_product f fd) {f_times : Addr} {d_times : FuncData} (g_times : mg "times" = some (.ref f_times)) (k_times : PySem.W.keepIn K (.ref f_times) = true) (b_times : L2.Binds K d_times ["one", "other"] []) (G_times : FnOk Pr wo K mg base (L2.CX Pr wo) 3 f_times d_times ["one", "other"] (sp_times K mg)) : FnOk Pr wo K mg base CX0 4 f fd ["_law_some"] (sp__law_product K) := by
  refine F.ok sc__law_product (fun vs H Q E h => ?_) (fun cdv A outer s H0 vs Q E hr h => ?_)
  · obtain ⟨_, _, _, _, rfl, _⟩ := h; rfl
  · obtain ⟨B0, v_some, a_some, w, rfl, r_some, P⟩ := h
    have w0 := w
    have hu := hu_of hr
    have hu64 := hu64_of hr
    have hr3 : Room 3 _ := hr.mono (by decide)
    refine ⟨_, (pss_cons (ps_set (i := 1) sc__law_product.nd rfl (by first | exact Or.inl rfl | exact Or.inr rfl) (pe_tup (pa_cons pe_int (pa_cons pe_int pa_nil))))
      (pss_cons (ps_for PassesOwn.never rfl (pi_list (pv 0)) (pg_name (i := 2) sc__law_product.nd rfl (by first | exact Or.inl rfl | exact Or.inr rfl)) (pss_one (ps_set (i := 1) sc__law_product.nd rfl (by first | exact Or.inl rfl | exact Or.inr rfl) (pe_call G_times hr3 rfl g_times k_times b_times .nil passL (pa_cons (pv 1) (pa_cons (pv 2) pa_nil))))))
      (pss_one (ps_ret (pv 1))))), ?_⟩
    unfold l_product at P
    have st := Stp.refl (W := []) w
    refine h_set ?_
    refine h_tup ?_
    refine h_cons ?_
    refine h_c ?_
    refine h_cons ?_
    refine h_c ?_
    refine h_nil ?_
    refine h_newT w (K := K) (.cons (Rep.int _) (.cons (Rep.int _) .nil)) (fun p1 B2 H3 s4 r5 => ?_) (by show 2 ≤ sizeLine; decide)
    replace st := st.go s4 go0
    replace w := s4.ok
    replace r5 : Rep K B2 (.ref p1) (enc (⟨1, 1⟩ : (Tp2 Int Int))) := r5
    refine h_seq ?_
    refine h_forE ?_
    refine h_var rfl ?_
    obtain ⟨p6, xs7, rfl, hb8, hr9⟩ := Rep.sqB (r_some.mono st.ex)
    have wj11 := w
    have sj10 := Stp.refl (W := []) w
    refine h_forL P (w.l hb8) hr9 (fun (a : (Tp2 Int Int)) σ' H' => ∃ (B' : Hp) (v0 : V) (o__law_one : Option V), Stp [] B2 H3 B' H' ∧ σ' = [some ((.ref p6)), some v0, o__law_one] ∧ Rep K B' v0 (enc a)) ⟨_, (.ref p1), _, sj10, rfl, r5⟩ (fun _ _ _ j => ?_) ?_ ?_
    · obtain ⟨B21, v24, o26, s23, rfl, r25⟩ := j
      exact s23.ok.l (s23.ex.l hb8)
    · rintro N12 T13 x18 v19 a17 _ H22 ⟨B21, v24, o26, s23, rfl, r25⟩ r20 kk14 kr15 kb16 P
      replace st := st.go s23 go0
      replace w := s23.ok
      have sj10 := s23
      replace r20 := r20.mono sj10.ex
      refine h_gname ?_
      refine h_set1 ?_
      refine h_call ?_
      refine h_cons ?_
      refine h_var rfl ?_
      refine h_cons ?_
      refine h_var rfl ?_
      refine h_nil ?_
      refine ⟨B21, v24, a17, v19, x18, w, rfl, r25, r20, (P.bind.noErr).mono (fun x27 P => ?_) (fun _ z => z.elim)⟩
      refine fun v31 B28 H29 s30 r32 => ?_
      replace r25 := r25.mono s30.ex
      replace r20 := r20.mono s30.ex
      replace st := st.go s30 go0
      replace sj10 := sj10.go s30 go0
      replace w := s30.ok
      refine h_nx ?_
      exact kk14 x27 _ _ ⟨_, v31, _, sj10, rfl, r32⟩ P.ok
    · rintro a33 _ H35 ⟨B34, v37, o39, s36, rfl, r38⟩ P
      replace st := st.go s36 go0
      replace w := s36.ok
      refine h_nx ?_
      refine h_ret ?_
      refine h_var rfl ?_
      exact P.ok _ _ _ st r38
theorem ok__law_worth {f : Addr} {fd : FuncData}  (F : Fun K "_law_worth" "_law_worth" s__law_worth f fd) (bI_sum : mg "sum" = none) : FnOk Pr wo K mg base CX0 1 f fd ["_law_pairs"] (sp__law_worth K) := by
  refine F.ok sc__law_worth (fun vs H Q E h => ?_) (fun cdv A outer s H0 vs Q E hr h => ?_)
  · obtain ⟨_, _, _, _, rfl, _⟩ := h; rfl
  · obtain ⟨B0, v_pairs, a_pairs, w, rfl, r_pairs, P⟩ := h
    have w0 := w
    have hu := hu_of hr
    have hu64 := hu64_of hr
    refine ⟨_, (pss_cons (ps_set (i := 1) sc__law_worth.nd rfl (by first | exact Or.inl rfl | exact Or.inr rfl) pe_int)
      (pss_cons (ps_for PassesOwn.never rfl (pi_list (pv 0)) (pg_name (i := 2) sc__law_worth.nd rfl (by first | exact Or.inl rfl | exact Or.inr rfl)) (pss_one (ps_set (i := 1) sc__law_worth.nd rfl (by first | exact Or.inl rfl | exact Or.inr rfl) (pe_op op_mulW (pv 1) (pe_ix (r := rIxT K) ix_tup (pv 2) pe_int (fun _ _ => rfl))))))
      (pss_one (ps_ret (pe_tup (pa_cons (pe_callB (r := rSum K) (cr_sum rfl) (by rfl) bI_sum PyProof.Rows.boot_sum (pa_cons (pe_lc (own := [("_law_pair", 2)]) rfl sc__law_worth.nd (pi_list (pv 0)) (blkOk_by (N := ["_law_pairs", "_law_bottom", "_law_pair"]) (sc := defScope s__law_worth) (by decide +kernel)) (fun _ _ _ _ _ => (pg_name (i := 2) sc__law_worth.nd rfl (by first | exact Or.inl rfl | exact Or.inr rfl))) (fun _ _ _ _ _ => pts_nil) (fun _ _ _ _ _ => (pe_op op_mulW (pe_ix (r := rIxT K) ix_tup (pv 2) pe_int (fun _ _ => rfl)) (pe_op op_fdivW (pv 1) (pe_ix (r := rIxT K) ix_tup (pv 2) pe_int (fun _ _ => rfl)))))) pa_nil)) (pa_cons (pv 1) pa_nil))))))), ?_⟩
    unfold l_worth at P
    have st := Stp.refl (W := []) w
    refine h_set ?_
    refine h_c ?_
    refine h_seq ?_
    refine h_forE ?_
    refine h_var rfl ?_
    obtain ⟨p1, xs2, rfl, hr4, hb3⟩ := Bor.sq0 r_pairs
    have wj6 := w
    have sj5 := Stp.refl (W := []) w
    refine h_forL P (hb3 _ _ st) (hr4.mono st.ex) (fun (a : Int) σ' H' => ∃ (B' : Hp) (o__law_pair : Option V), Stp [] B0 H0 B' H' ∧ σ' = [some ((.ref p1)), some (.int a), o__law_pair]) ⟨_, _, sj5, rfl⟩ (fun _ _ _ j => ?_) ?_ ?_
    · obtain ⟨B16, o19, s18, rfl⟩ := j
      exact hb3 _ _ (st.go s18 go0)
    · rintro N7 T8 x13 v14 a12 _ H17 ⟨B16, o19, s18, rfl⟩ r15 kk9 kr10 kb11 P
      replace st := st.go s18 go0
      replace w := s18.ok
      have sj5 := s18
      replace r15 := r15.mono sj5.ex
      refine h_gname ?_
      refine h_set1 ?_
      refine h_op ?_
      refine h_var rfl ?_
      refine h_op ?_
      refine h_var rfl ?_
      refine h_c ?_
      obtain ⟨p20, xs21, rfl, hs22, hr23⟩ := Rep.st w r15
      obtain ⟨u24, hu, r25⟩ := RepL.at hr23 (i := 1) rfl
      refine h_ixT hs22 hu ?_
      cases r25
      obtain ⟨gd, P⟩ := P.guard
      refine h_I gd ?_
      replace P := P.lt
      generalize hx : (a12 * x13.b) = x26 at P ⊢
      refine h_nx ?_
      exact kk9 x26 _ _ ⟨_, _, sj5, rfl⟩ P.ok
    · rintro a27 _ H29 ⟨B28, o31, s30, rfl⟩ P
      replace st := st.go s30 go0
      replace w := s30.ok
      refine h_nx ?_
      refine h_ret ?_
      refine h_tup ?_
      refine h_cons ?_
      refine h_cb ?_
      refine h_cons ?_
      refine h_lcE ?_
      refine h_var rfl ?_
      obtain ⟨p32, xs33, hv, hr35, hb34⟩ := Bor.sq0 r_pairs
      cases hv
      refine h_lcL P (hb34 _ _ st) (hr35.mono st.ex) (fun Dl (acc : List Int) (a : Unit) H' => ∃ B', Stp [] B28 H29 B' H' ∧ H29 Dl = none ∧ Mu K B' H' Dl (acc.map enc)) (fun Dl hD => ⟨_, Stp.newM w hD, hD, Mu.new w hD .nil⟩) (fun _ _ _ _ j => ?_) ?_ ?_
      · obtain ⟨B45, s46, hD47, m48⟩ := j
        exact hb34 _ _ (st.go s46 go0)
      · rintro Dl36 N37 T38 x39 v40 acc42 a43 H44 ⟨B45, s46, hD47, m48⟩ r41 hz49 kk50 kn51 P
        have wj53 := w
        have sj52 := s46
        have n54 := st.nn hD47
        replace st := st.go s46 go0
        replace w := s46.ok
        replace r41 := r41.mono s46.ex
        refine h_gname ?_
        refine h_lcT rfl ?_
        refine h_op ?_
        refine h_op ?_
        refine h_var rfl ?_
        refine h_c ?_
        obtain ⟨p55, xs56, rfl, hs57, hr58⟩ := Rep.st w r41
        obtain ⟨u59, hu, r60⟩ := RepL.at hr58 (i := 0) rfl
        refine h_ixT hs57 hu ?_
        cases r60
        refine h_op ?_
        refine h_var rfl ?_
        refine h_op ?_
        refine h_var rfl ?_
        refine h_c ?_
        obtain ⟨p61, xs62, hv, hs63, hr64⟩ := Rep.st w r41
        cases hv
        obtain ⟨u65, hu, r66⟩ := RepL.at hr64 (i := 1) rfl
        refine h_ixT hs63 hu ?_
        cases r66
        obtain ⟨gd, P⟩ := P.guard
        refine h_I gd ?_
        obtain ⟨gd, P⟩ := P.guard
        refine h_I gd ?_
        refine h_app (b := (x39.a * (a27 / x39.b))) w m48 (Rep.int _) hz49 (fun H67 s68 m48 => ?_)
        replace r41 := r41.mono s68.ex
        replace st := st.go s68 (go1 (.inr n54))
        replace sj52 := sj52.go s68 (go1 (.inr hD47))
        replace w := s68.ok
        exact kk50 (x39.a * (a27 / x39.b)) () _ ⟨_, sj52, hD47, m48⟩ P.ok
      · rintro Dl36 acc42 a43 H44 ⟨B45, s46, hD47, m48⟩ P
        have n69 := st.nn hD47
        replace st := st.go s46 go0
        replace w := s46.ok
        replace P := P.un2
        obtain ⟨B74, e70, k71, g72, r73⟩ := Mu.keep m48
        replace st := g72 _ _ _ st w0 n69
        replace w := st.ok
        replace r73 : Rep K B74 (.ref Dl36) (enc acc42) := r73
        refine h_nil ?_
        obtain ⟨p75, xs76, hv, hs77, hr78⟩ := Rep.sq w r73
        cases hv
        refine h_sum hs77 hr78 ?_
        refine h_cons ?_
        refine h_var rfl ?_
        refine h_nil ?_
        refine h_newT w (K := K) (.cons (Rep.int _) (.cons (Rep.int _) .nil)) (fun p79 B80 H81 s82 r83 => ?_) (by show 2 ≤ sizeLine; decide)
        replace st := st.go s82 go0
        replace w := s82.ok
        replace r83 : Rep K B80 (.ref p79) (enc (⟨acc42.sum, a27⟩ : (Tp2 Int Int))) := r83
        exact P.ok _ _ _ st r83
theorem ok__law_lowest {f : Addr} {fd : FuncData}  (F : Fun K "_law_lowest" "_law_lowest" s__law_lowest f fd) (bI_abs : mg "abs" = none) : FnOk Pr wo K mg base CX0 1 f fd ["_law_top", "_law_bottom"] (sp__law_lowest K) := by
  refine F.ok sc__law_lowest (fun vs H Q E h => ?_) (fun cdv A outer s H0 vs Q E hr h => ?_)
  · obtain ⟨_, _, _, _, rfl, _⟩ := h; rfl
  · obtain ⟨B0, a_top, a_bottom, w, rfl, P⟩ := h
    have w0 := w
    have hu := hu_of hr
    have hu64 := hu64_of hr
    refine ⟨_, (pss_cons (ps_par rfl sc__law_lowest.nd (i := 2) (j := 3) rfl rfl (by decide) rfl rfl (pa_cons (pe_callB cr_abs (by rfl) bI_abs PyProof.Rows.boot_abs (pa_cons (pv 0) pa_nil)) (pa_cons (pv 1) pa_nil)) rfl)
      (pss_cons (ps_while PassesOwn.never (pt_cmpR op_gt (pv 3) pe_int (nomark _)) (pss_one (ps_par rfl sc__law_lowest.nd (i := 2) (j := 3) rfl rfl (by decide) rfl rfl (pa_cons (pv 3) (pa_cons (pe_op op_mod (pv 2) (pv 3)) pa_nil)) rfl)))
      (pss_one (ps_ret (pe_tup (pa_cons (pe_op op_fdivW (pv 0) (pv 2)) (pa_cons (pe_op op_fdivW (pv 1) (pv 2)) pa_nil))))))), ?_⟩
    unfold l_lowest at P
    have st := Stp.refl (W := []) w
    refine h_seq ?_
    refine h_par ?_
    refine h_cons ?_
    refine h_cb ?_
    refine h_cons ?_
    refine h_var rfl ?_
    refine h_nil ?_
    refine h_abs ?_
    refine h_cons ?_
    refine h_var rfl ?_
    refine h_nil ?_
    refine h_two ?_
    replace P := P.lt
    generalize hx : (absI a_top) = x1 at P ⊢
    refine h_nx ?_
    refine h_seq ?_
    have wj3 := w
    have sj2 := Stp.refl (W := []) w
    refine h_while P (fun (a : Int × Int) σ' H' => ∃ (B' : Hp), Stp [] B0 H0 B' H' ∧ σ' = [some (.int a_top), some (.int a_bottom), some (.int a.1), some (.int a.2)]) ⟨_, sj2, rfl⟩ ?_ ?_
    · rintro N4 C5 T6 a11 _ H13 ⟨B12, s14, rfl⟩ kn7 kk8 kr9 kb10 P
      replace st := st.go s14 go0
      replace w := s14.ok
      have sj2 := s14
      refine h_test ?_
      refine h_op ?_
      refine h_var rfl ?_
      refine h_c ?_
      refine h_I0 ?_
      refine h_bl ?_
      refine h_ite (fun c1 => ?_) (fun c1 => ?_)
      · replace P := P.iteT c1
        refine ⟨N4, kn7, ?_⟩
        refine h_par ?_
        refine h_cons ?_
        refine h_var rfl ?_
        refine h_cons ?_
        refine h_op ?_
        refine h_var rfl ?_
        refine h_var rfl ?_
        obtain ⟨gd, P⟩ := P.guard
        refine h_I gd ?_
        refine h_nil ?_
        refine h_two ?_
        replace P := P.lt
        generalize hx : (a11.1 % a11.2) = x15 at P ⊢
        refine h_nx ?_
        exact kk8 (a11.2, x15) _ _ ⟨_, sj2, rfl⟩ P.ok
      · replace P := P.iteF c1
        exact kb10 (a11.1, a11.2) _ _ ⟨_, sj2, rfl⟩ P.ok
    · rintro a16 _ H18 ⟨B17, s19, rfl⟩ P
      replace st := st.go s19 go0
      replace w := s19.ok
      refine h_nx ?_
      refine h_ret ?_
      refine h_tup ?_
      refine h_cons ?_
      refine h_op ?_
      refine h_var rfl ?_
      refine h_var rfl ?_
      obtain ⟨gd, P⟩ := P.guard
      refine h_I gd ?_
      refine h_cons ?_
      refine h_op ?_
      refine h_var rfl ?_
      refine h_var rfl ?_
      obtain ⟨gd, P⟩ := P.guard
      refine h_I gd ?_
      refine h_nil ?_
      refine h_newT w (K := K) (.cons (Rep.int _) (.cons (Rep.int _) .nil)) (fun p20 B21 H22 s23 r24 => ?_) (by show 2 ≤ sizeLine; decide)
      replace st := st.go s23 go0
      replace w := s23.ok
      replace r24 : Rep K B21 (.ref p20) (enc (⟨(a_top / a16.1), (a_bottom / a16.1)⟩ : (Tp2 Int Int))) := r24
      exact P.ok _ _ _ st r24
theorem ok__law_order_right {f : Addr} {fd : FuncData}  (F : Fun K "_law_order_right" "_law_order_right" s__law_order_right f fd) {f_less : Addr} {d_less : FuncData} (g_less : mg "less" = some (.ref f_less)) (k_less : PySem.W.keepIn K (.ref f_less) = true) (b_less : L2.Binds K d_less ["one", "other"] []) (G_less : FnOk Pr wo K mg base CX0 1 f_less d_less ["one", "other"] (sp_less K)) {f_minus : Addr} {d_minus : FuncData} (g_minus : mg "minus" = some (.ref f_minus)) (k_minus : PySem.W.keepIn K (.ref f_minus) = true) (b_minus : L2.Binds K d_minus ["one", "other"] []) (G_minus : FnOk Pr wo K mg base (L2.CX Pr wo) 3 f_minus d_minus ["one", "other"] (sp_minus K mg)) : FnOk Pr wo K mg base CX0 4 f fd ["_law_some"] (sp__law_order_right K) := by
  refine F.ok sc__law_order_right (fun vs H Q E h => ?_) (fun cdv A outer s H0 vs Q E hr h => ?_)
  · obtain ⟨_, _, _, _, rfl, _⟩ := h; rfl
  · obtain ⟨B0, v_some, a_some, w, rfl, r_some, P⟩ := h
    have w0 := w
    have hu := hu_of hr
    have hu64 := hu64_of hr
    have hr1 : Room 1 _ := hr.mono (by decide)
    have hr3 : Room 3 _ := hr.mono (by decide)
    refine ⟨_, (pss_cons (ps_for PassesOwn.never rfl (pi_list (pv 0)) (pg_name (i := 1) sc__law_order_right.nd rfl (by first | exact Or.inl rfl | exact Or.inr rfl)) (pss_one (ps_for PassesOwn.never rfl (pi_list (pv 0)) (pg_name (i := 2) sc__law_order_right.nd rfl (by first | exact Or.inl rfl | exact Or.inr rfl)) (pss_cons (ps_set (i := 3) sc__law_order_right.nd rfl (by first | exact Or.inl rfl | exact Or.inr rfl) (pe_cmpR op_lt (pe_op op_mulW (pe_ix (r := rIxT K) ix_tup (pv 1) pe_int (fun _ _ => rfl)) (pe_ix (r := rIxT K) ix_tup (pv 2) pe_int (fun _ _ => rfl))) (pe_op op_mulW (pe_ix (r := rIxT K) ix_tup (pv 2) pe_int (fun _ _ => rfl)) (pe_ix (r := rIxT K) ix_tup (pv 1) pe_int (fun _ _ => rfl))) (nomark _)))
      (pss_cons (ps_if (PW.pt (pw_or (pt_cmpR op_ne (pe_call G_less hr1 rfl g_less k_less b_less .nil pass0 (pa_cons (pv 1) (pa_cons (pv 2) pa_nil))) (pv 3) (nomark _)) (pw_or1 (pt_cmpR op_ne (pe_cmpR op_lt (pe_ix (r := rIxT K) ix_tup (pe_call G_minus hr3 rfl g_minus k_minus b_minus .nil passL (pa_cons (pv 1) (pa_cons (pv 2) pa_nil))) pe_int (fun _ _ => rfl)) pe_int (nomark _)) (pv 3) (nomark _))))) (pss_one (ps_ret pe_bl)) pss_nil)
      (pss_one (ps_if (pt_cmpR op_ne (pe_op op_addIB (pe_op op_addBB (pv 3) (pe_call G_less hr1 rfl g_less k_less b_less .nil pass0 (pa_cons (pv 2) (pa_cons (pv 1) pa_nil)))) (pe_cmpR (r := rEqD K) (op_eqD hu64) (pv 1) (pv 2) (nomark _))) pe_int (nomark _)) (pss_one (ps_ret pe_bl)) pss_nil)))))))
      (pss_one (ps_ret pe_bl))), ?_⟩
    unfold l_order_right at P
    have st := Stp.refl (W := []) w
    refine h_seq ?_
    refine h_forE ?_
    refine h_var rfl ?_
    obtain ⟨p1, xs2, rfl, hb3, hr4⟩ := Rep.sqB (r_some.mono st.ex)
    have wj6 := w
    have sj5 := Stp.refl (W := []) w
    refine h_forL P (w.l hb3) hr4 (fun (a : Unit) σ' H' => ∃ (B' : Hp) (o__law_other : Option V) (o__law_ahead : Option V) (o__law_one : Option V), Stp [] B0 H0 B' H' ∧ σ' = [some ((.ref p1)), o__law_one, o__law_other, o__law_ahead]) ⟨_, _, _, _, sj5, rfl⟩ (fun _ _ _ j => ?_) ?_ ?_
    · obtain ⟨B16, o19, o20, o21, s18, rfl⟩ := j
      exact s18.ok.l (s18.ex.l hb3)
    · rintro N7 T8 x13 v14 a12 _ H17 ⟨B16, o19, o20, o21, s18, rfl⟩ r15 kk9 kr10 kb11 P
      replace st := st.go s18 go0
      replace w := s18.ok
      have sj5 := s18
      replace r15 := r15.mono sj5.ex
      refine h_gname ?_
      refine h_forE ?_
      refine h_var rfl ?_
      obtain ⟨p22, xs23, hv, hb24, hr25⟩ := Rep.sqB (r_some.mono st.ex)
      cases hv
      have wj27 := w
      have sj26 := Stp.refl (W := []) w
      refine h_forL P (w.l hb24) hr25 (fun (a : Unit) σ' H' => ∃ (B' : Hp) (o__law_ahead : Option V) (o__law_other : Option V), Stp [] B16 H17 B' H' ∧ σ' = [some ((.ref p1)), some (v14), o__law_other, o__law_ahead]) ⟨_, _, _, sj26, rfl⟩ (fun _ _ _ j => ?_) ?_ ?_
      · obtain ⟨B37, o40, o41, s39, rfl⟩ := j
        exact s39.ok.l (s39.ex.l hb24)
      · rintro N28 T29 x34 v35 a33 _ H38 ⟨B37, o40, o41, s39, rfl⟩ r36 kk30 kr31 kb32 P
        replace r15 := r15.mono s39.ex
        replace st := st.go s39 go0
        replace sj5 := sj5.go s39 go0
        replace w := s39.ok
        have sj26 := s39
        replace r36 := r36.mono sj26.ex
        refine h_gname ?_
        refine h_set ?_
        refine h_op ?_
        refine h_op ?_
        refine h_op ?_
        refine h_var rfl ?_
        refine h_c ?_
        obtain ⟨p42, xs43, rfl, hs44, hr45⟩ := Rep.st w r15
        obtain ⟨u46, hu, r47⟩ := RepL.at hr45 (i := 0) rfl
        refine h_ixT hs44 hu ?_
        cases r47
        refine h_op ?_
        refine h_var rfl ?_
        refine h_c ?_
        obtain ⟨p48, xs49, rfl, hs50, hr51⟩ := Rep.st w r36
        obtain ⟨u52, hu, r53⟩ := RepL.at hr51 (i := 1) rfl
        refine h_ixT hs50 hu ?_
        cases r53
        obtain ⟨gd, P⟩ := P.guard
        refine h_I gd ?_
        refine h_op ?_
        refine h_op ?_
        refine h_var rfl ?_
        refine h_c ?_
        obtain ⟨p54, xs55, hv, hs56, hr57⟩ := Rep.st w r36
        cases hv
        obtain ⟨u58, hu, r59⟩ := RepL.at hr57 (i := 0) rfl
        refine h_ixT hs56 hu ?_
        cases r59
        refine h_op ?_
        refine h_var rfl ?_
        refine h_c ?_
        obtain ⟨p60, xs61, hv, hs62, hr63⟩ := Rep.st w r15
        cases hv
        obtain ⟨u64, hu, r65⟩ := RepL.at hr63 (i := 1) rfl
        refine h_ixT hs62 hu ?_
        cases r65
        obtain ⟨gd, P⟩ := P.guard
        refine h_I gd ?_
        refine h_I0 ?_
        replace P := P.lt
        generalize hx : (decide ((x13.a * x34.b) < (x34.a * x13.b))) = x66 at P ⊢
        refine h_seq <| h_if ?_
        refine h_tor ?_
        refine h_test ?_
        refine h_op ?_
        refine h_call ?_
        refine h_cons ?_
        refine h_var rfl ?_
        refine h_cons ?_
        refine h_var rfl ?_
        refine h_nil ?_
        refine ⟨B37, (.ref p42), x13, (.ref p48), x34, w, rfl, r15, r36, (P.bind).mono (fun x67 P => ?_) (fun _ z => z)⟩
        refine fun v71 B68 H69 s70 r72 => ?_
        replace r15 := r15.mono s70.ex
        replace r36 := r36.mono s70.ex
        replace st := st.go s70 go0
        replace sj5 := sj5.go s70 go0
        replace sj26 := sj26.go s70 go0
        replace w := s70.ok
        cases r72
        refine h_var rfl ?_
        refine h_neB ?_
        refine h_bl ?_
        refine h_ite (fun c1 => ?_) (fun c1 => ?_)
        · replace P := P.iteT c1
          refine h_iteT ?_
          refine h_ret ?_
          refine h_c ?_
          exact (kr10 _ (kr31 _ P.ok)) _ _ _ st (Rep.bl _)
        · replace P := P.iteF c1
          refine h_test ?_
          refine h_op ?_
          refine h_op ?_
          refine h_op ?_
          refine h_call ?_
          refine h_cons ?_
          refine h_var rfl ?_
          refine h_cons ?_
          refine h_var rfl ?_
          refine h_nil ?_
          refine ⟨B68, (.ref p42), x13, (.ref p48), x34, w, rfl, r15, r36, (P.bind.noErr).mono (fun x73 P => ?_) (fun _ z => z.elim)⟩
          refine fun v77 B74 H75 s76 r78 => ?_
          replace r15 := r15.mono s76.ex
          replace r36 := r36.mono s76.ex
          replace st := st.go s76 go0
          replace sj5 := sj5.go s76 go0
          replace sj26 := sj26.go s76 go0
          replace w := s76.ok
          refine h_c ?_
          obtain ⟨p79, xs80, rfl, hs81, hr82⟩ := Rep.st w r78
          obtain ⟨u83, hu, r84⟩ := RepL.at hr82 (i := 0) rfl
          refine h_ixT hs81 hu ?_
          cases r84
          refine h_c ?_
          refine h_I0 ?_
          refine h_var rfl ?_
          refine h_neB ?_
          refine h_bl ?_
          refine h_ite (fun c1 => ?_) (fun c1 => ?_)
          · replace P := P.iteT c1
            refine h_ret ?_
            refine h_c ?_
            exact (kr10 _ (kr31 _ P.ok)) _ _ _ st (Rep.bl _)
          · replace P := P.iteF c1
            refine h_next ?_
            refine h_nx ?_
            refine h_if ?_
            refine h_test ?_
            refine h_op ?_
            refine h_op ?_
            refine h_op ?_
            refine h_var rfl ?_
            refine h_call ?_
            refine h_cons ?_
            refine h_var rfl ?_
            refine h_cons ?_
            refine h_var rfl ?_
            refine h_nil ?_
            refine ⟨B74, (.ref p48), x34, (.ref p42), x13, w, rfl, r36, r15, (P.bind).mono (fun x85 P => ?_) (fun _ z => z)⟩
            refine fun v89 B86 H87 s88 r90 => ?_
            replace r15 := r15.mono s88.ex
            replace r36 := r36.mono s88.ex
            replace st := st.go s88 go0
            replace sj5 := sj5.go s88 go0
            replace sj26 := sj26.go s88 go0
            replace w := s88.ok
            cases r90
            refine h_addBB ?_
            refine h_op ?_
            refine h_var rfl ?_
            refine h_var rfl ?_
            obtain ⟨gd, P⟩ := P.guard
            refine h_eqD (d := (enc x13)) (e := (enc x34)) w r15 r36 gd ?_
            refine h_addIB ?_
            refine h_c ?_
            refine h_neI ?_
            refine h_bl ?_
            refine h_ite (fun c1 => ?_) (fun c1 => ?_)
            · replace P := P.iteT c1
              refine h_ret ?_
              refine h_c ?_
              exact (kr10 _ (kr31 _ P.ok)) _ _ _ st (Rep.bl _)
            · replace P := P.iteF c1
              refine h_next ?_
              refine h_nx ?_
              exact kk30 () _ _ ⟨_, _, _, sj26, rfl⟩ P.ok
      · rintro a91 _ H93 ⟨B92, o95, o96, s94, rfl⟩ P
        replace r15 := r15.mono s94.ex
        replace st := st.go s94 go0
        replace sj5 := sj5.go s94 go0
        replace w := s94.ok
        refine h_nx ?_
        exact kk9 () _ _ ⟨_, _, _, _, sj5, rfl⟩ P.ok
    · rintro a97 _ H99 ⟨B98, o101, o102, o103, s100, rfl⟩ P
      replace st := st.go s100 go0
      replace w := s100.ok
      refine h_nx ?_
      refine h_ret ?_
      refine h_c ?_
      exact P.ok _ _ _ st (Rep.bl _)
theorem ok_law {f : Addr} {fd : FuncData}  (F : Fun K "law" "law" s_law f fd) {f__law_worth : Addr} {d__law_worth : FuncData} (g__law_worth : mg "_law_worth" = some (.ref f__law_worth)) (k__law_worth : PySem.W.keepIn K (.ref f__law_worth) = true) (b__law_worth : L2.Binds K d__law_worth ["_law_pairs"] []) (G__law_worth : FnOk Pr wo K mg base CX0 1 f__law_worth d__law_worth ["_law_pairs"] (sp__law_worth K)) {f__law_digit : Addr} {d__law_digit : FuncData} (g__law_digit : mg "_law_digit" = some (.ref f__law_digit)) (k__law_digit : PySem.W.keepIn K (.ref f__law_digit) = true) (b__law_digit : L2.Binds K d__law_digit ["_law_state", "_law_base"] []) (G__law_digit : FnOk Pr wo K mg base CX0 1 f__law_digit d__law_digit ["_law_state", "_law_base"] (sp__law_digit K)) {f__law_sum : Addr} {d__law_sum : FuncData} (g__law_sum : mg "_law_sum" = some (.ref f__law_sum)) (k__law_sum : PySem.W.keepIn K (.ref f__law_sum) = true) (b__law_sum : L2.Binds K d__law_sum ["_law_some"] []) (G__law_sum : FnOk Pr wo K mg base CX0 4 f__law_sum d__law_sum ["_law_some"] (sp__law_sum K)) {f__law_product : Addr} {d__law_product : FuncData} (g__law_product : mg "_law_product" = some (.ref f__law_product)) (k__law_product : PySem.W.keepIn K (.ref f__law_product) = true) (b__law_product : L2.Binds K d__law_product ["_law_some"] []) (G__law_product : FnOk Pr wo K mg base CX0 4 f__law_product d__law_product ["_law_some"] (sp__law_product K)) {f_fraction : Addr} {d_fraction : FuncData} (g_fraction : mg "fraction" = some (.ref f_fraction)) (k_fraction : PySem.W.keepIn K (.ref f_fraction) = true) (b_fraction : L2.Binds K d_fraction ["top", "bottom"] []) (G_fraction : FnOk Pr wo K mg base (L2.CX Pr wo) 2 f_fraction d_fraction ["top", "bottom"] (sp_fraction K mg)) {f__law_lowest : Addr} {d__law_lowest : FuncData} (g__law_lowest : mg "_law_lowest" = some (.ref f__law_lowest)) (k__law_lowest : PySem.W.keepIn K (.ref f__law_lowest) = true) (b__law_lowest : L2.Binds K d__law_lowest ["_law_top", "_law_bottom"] []) (G__law_lowest : FnOk Pr wo K mg base CX0 1 f__law_lowest d__law_lowest ["_law_top", "_law_bottom"] (sp__law_lowest K)) {f_times : Addr} {d_times : FuncData} (g_times : mg "times" = some (.ref f_times)) (k_times : PySem.W.keepIn K (.ref f_times) = true) (b_times : L2.Binds K d_times ["one", "other"] []) (G_times : FnOk Pr wo K mg base (L2.CX Pr wo) 3 f_times d_times ["one", "other"] (sp_times K mg)) {f_floor : Addr} {d_floor : FuncData} (g_floor : mg "floor" = some (.ref f_floor)) (k_floor : PySem.W.keepIn K (.ref f_floor) = true) (b_floor : L2.Binds K d_floor ["one"] []) (G_floor : FnOk Pr wo K mg base CX0 1 f_floor d_floor ["one"] (sp_floor K)) {f__law_drawn : Addr} {d__law_drawn : FuncData} (g__law_drawn : mg "_law_drawn" = some (.ref f__law_drawn)) (k__law_drawn : PySem.W.keepIn K (.ref f__law_drawn) = true) (b__law_drawn : L2.Binds K d__law_drawn ["_law_state", "_law_ahead"] []) (G__law_drawn : FnOk Pr wo K mg base CX0 2 f__law_drawn d__law_drawn ["_law_state", "_law_ahead"] (sp__law_drawn K)) {f__law_cell_at : Addr} {d__law_cell_at : FuncData} (g__law_cell_at : mg "_law_cell_at" = some (.ref f__law_cell_at)) (k__law_cell_at : PySem.W.keepIn K (.ref f__law_cell_at) = true) (b__law_cell_at : L2.Binds K d__law_cell_at ["_law_script", "_law_k"] []) (G__law_cell_at : FnOk Pr wo K mg base CX0 1 f__law_cell_at d__law_cell_at ["_law_script", "_law_k"] (sp__law_cell_at K)) {f_plus : Addr} {d_plus : FuncData} (g_plus : mg "plus" = some (.ref f_plus)) (k_plus : PySem.W.keepIn K (.ref f_plus) = true) (b_plus : L2.Binds K d_plus ["one", "other"] []) (G_plus : FnOk Pr wo K mg base (L2.CX Pr wo) 3 f_plus d_plus ["one", "other"] (sp_plus K mg)) {f__law_order_right : Addr} {d__law_order_right : FuncData} (g__law_order_right : mg "_law_order_right" = some (.ref f__law_order_right)) (k__law_order_right : PySem.W.keepIn K (.ref f__law_order_right) = true) (b__law_order_right : L2.Binds K d__law_order_right ["_law_some"] []) (G__law_order_right : FnOk Pr wo K mg base CX0 4 f__law_order_right d__law_order_right ["_law_some"] (sp__law_order_right K)) {f__law_mixed : Addr} {d__law_mixed : FuncData} (g__law_mixed : mg "_law_mixed" = some (.ref f__law_mixed)) (k__law_mixed : PySem.W.keepIn K (.ref f__law_mixed) = true) (b__law_mixed : L2.Binds K d__law_mixed ["_law_state", "_law_things"] []) (G__law_mixed : FnOk Pr wo K mg base CX0 2 f__law_mixed d__law_mixed ["_law_state", "_law_things"] (sp__law_mixed K)) (bI_sum : mg "sum" = none) (bI_len : mg "len" = none) : FnOk Pr wo K mg base CX0 5 f fd ["_law_script"] (sp_law K) := by
  refine F.ok sc_law (fun vs H Q E h => ?_) (fun cdv A outer s H0 vs Q E hr h => ?_)
  · obtain ⟨_, _, _, _, rfl, _⟩ := h; rfl
  · obtain ⟨B0, v_script, a_script, w, rfl, r_script, P⟩ := h
    have w0 := w
    have hu := hu_of hr
    have hu64 := hu64_of hr
    have hr1 : Room 1 _ := hr.mono (by decide)
    have hr2 : Room 2 _ := hr.mono (by decide)
    have hr3 : Room 3 _ := hr.mono (by decide)
    have hr4 : Room 4 _ := hr.mono (by decide)
    refine ⟨_, (pss_cons (ps_set (i := 1) sc_law.nd rfl (by first | exact Or.inl rfl | exact Or.inr rfl) (pe_lst pa_nil))
      (pss_cons (ps_for PassesOwn.never rfl (pi_list (pe_slice (r := rSlQ K) sl_Q (pe_op (r := rCatQ K) op_catQ (pv 0) (pe_lst (pa_cons pe_int (pa_cons pe_int pa_nil)))) po_none (po_some pe_int))) (pg_name (i := 2) sc_law.nd rfl (by first | exact Or.inl rfl | exact Or.inr rfl)) (pss_one (ps_expr (pe_bm PySem.F.plainAttrs_list PySem.F.slot_list_append PySem.F.type_list_append mt_append (pv 1) (pa_cons (pe_call G__law_drawn hr2 rfl g__law_drawn k__law_drawn b__law_drawn .nil pass0 (pa_cons (pe_lst (pa_cons (pv 2) pa_nil)) (pa_cons (pv 1) pa_nil))) pa_nil)))))
      (pss_cons (ps_set (i := 3) sc_law.nd rfl (by first | exact Or.inl rfl | exact Or.inr rfl) (pe_lc (own := [("_law_top", 4), ("_law_bottom", 5)]) rfl sc_law.nd (pi_list (pv 1)) (blkOk_by (N := ["_law_script", "_law_pairs", "_law_cell", "_law_some", "_law_top", "_law_bottom", "_law_under", "_law_state", "_law_half", "_law_found", "_law_product_here", "_law_tops", "_law_pair", "_law_spread", "_law_one", "_law_low"]) (sc := defScope s_law) (by decide +kernel)) (fun _ _ _ _ _ => (pg_tupK (K := K) (n := 2) rfl rfl (pgs_cons (pg_name (i := 4) sc_law.nd rfl (by first | exact Or.inl rfl | exact Or.inr rfl)) (pgs_cons (pg_name (i := 5) sc_law.nd rfl (by first | exact Or.inl rfl | exact Or.inr rfl)) pgs_nil)))) (fun _ _ _ _ _ => pts_nil) (fun _ _ _ _ _ => (pe_call G_fraction hr2 rfl g_fraction k_fraction b_fraction .nil passL (pa_cons (pv 4) (pa_cons (pv 5) pa_nil))))))
      (pss_cons (ps_asg (pe_call G__law_worth hr1 rfl g__law_worth k__law_worth b__law_worth .nil pass0 (pa_cons (pv 1) pa_nil)) (pg_tupK (K := K) (n := 2) rfl rfl (pgs_cons (pg_name (i := 4) sc_law.nd rfl (by first | exact Or.inl rfl | exact Or.inr rfl)) (pgs_cons (pg_name (i := 6) sc_law.nd rfl (by first | exact Or.inl rfl | exact Or.inr rfl)) pgs_nil))))
      (pss_cons (ps_set (i := 7) sc_law.nd rfl (by first | exact Or.inl rfl | exact Or.inr rfl) (pe_lst (pa_cons (pe_op op_add (pe_call G__law_cell_at hr1 rfl g__law_cell_at k__law_cell_at b__law_cell_at .nil pass0 (pa_cons (pv 0) (pa_cons pe_int pa_nil))) pe_int) pa_nil)))
      (pss_cons (ps_set (i := 8) sc_law.nd rfl (by first | exact Or.inl rfl | exact Or.inr rfl) (pe_call G__law_digit hr1 rfl g__law_digit k__law_digit b__law_digit .nil pass0 (pa_cons (pv 7) (pa_cons (pe_op op_add (pe_callB (r := rLenY K) cr_len (by rfl) bI_len PySem.boot_len (pa_cons (pv 3) pa_nil)) pe_int) pa_nil))))
      (pss_cons (ps_set (i := 9) sc_law.nd rfl (by first | exact Or.inl rfl | exact Or.inr rfl) (pe_call G__law_sum hr4 rfl g__law_sum k__law_sum b__law_sum .nil pass0 (pa_cons (pv 3) pa_nil)))
      (pss_cons (ps_if (PW.pt (pw_or (pt_cmpR (r := rNeD K) (op_neD hu64) (pv 9) (pe_call G__law_lowest hr1 rfl g__law_lowest k__law_lowest b__law_lowest .nil pass0 (pa_cons (pv 4) (pa_cons (pv 6) pa_nil))) (nomark _)) (pw_or1 (pt_cmpR (r := rNeD K) (op_neD hu64) (pe_call G_plus hr3 rfl g_plus k_plus b_plus .nil passL (pa_cons (pe_call G__law_sum hr4 rfl g__law_sum k__law_sum b__law_sum .nil pass0 (pa_cons (pe_slice (r := rSlQ K) sl_Q (pv 3) po_none (po_some (pv 8))) pa_nil)) (pa_cons (pe_call G__law_sum hr4 rfl g__law_sum k__law_sum b__law_sum .nil pass0 (pa_cons (pe_slice (r := rSlQ K) sl_Q (pv 3) (po_some (pv 8)) po_none) pa_nil)) pa_nil))) (pv 9) (nomark _))))) (pss_one (ps_ret pe_bl)) pss_nil)
      (pss_cons (ps_if (PW.pt (pw_or (pt_cmpR (r := rNeD K) (op_neD hu64) (pe_call G__law_sum hr4 rfl g__law_sum k__law_sum b__law_sum .nil pass0 (pa_cons (pe_call G__law_mixed hr2 rfl g__law_mixed k__law_mixed b__law_mixed .nil pass0 (pa_cons (pv 7) (pa_cons (pv 3) pa_nil))) pa_nil)) (pv 9) (nomark _)) (pw_or1 (pt_cmpR (r := rNeD K) (op_neD hu64) (pe_call G__law_sum hr4 rfl g__law_sum k__law_sum b__law_sum .nil pass0 (pa_cons (pe_revL (pv 3)) pa_nil)) (pv 9) (nomark _))))) (pss_one (ps_ret pe_bl)) pss_nil)
      (pss_cons (ps_set (i := 10) sc_law.nd rfl (by first | exact Or.inl rfl | exact Or.inr rfl) (pe_call G__law_product hr4 rfl g__law_product k__law_product b__law_product .nil pass0 (pa_cons (pv 3) pa_nil)))
      (pss_cons (ps_if (PW.pt (pw_or (pt_cmpR (r := rNeD K) (op_neD hu64) (pe_call G__law_product hr4 rfl g__law_product k__law_product b__law_product .nil pass0 (pa_cons (pe_call G__law_mixed hr2 rfl g__law_mixed k__law_mixed b__law_mixed .nil pass0 (pa_cons (pv 7) (pa_cons (pv 3) pa_nil))) pa_nil)) (pv 10) (nomark _)) (pw_or1 (pt_not (pt_val (pe_call G__law_order_right hr4 rfl g__law_order_right k__law_order_right b__law_order_right .nil pass0 (pa_cons (pv 3) pa_nil))))))) (pss_one (ps_ret pe_bl)) pss_nil)
      (pss_cons (ps_set (i := 11) sc_law.nd rfl (by first | exact Or.inl rfl | exact Or.inr rfl) pe_int)
      (pss_cons (ps_for PassesOwn.never rfl (pi_list (pv 1)) (pg_name (i := 12) sc_law.nd rfl (by first | exact Or.inl rfl | exact Or.inr rfl)) (pss_one (ps_set (i := 11) sc_law.nd rfl (by first | exact Or.inl rfl | exact Or.inr rfl) (pe_op op_mulW (pv 11) (pe_ix (r := rIxT K) ix_tup (pv 12) pe_int (fun _ _ => rfl))))))
      (pss_cons (ps_if (pt_cmpR (r := rNeD K) (op_neD hu64) (pv 10) (pe_call G__law_lowest hr1 rfl g__law_lowest k__law_lowest b__law_lowest .nil pass0 (pa_cons (pv 11) (pa_cons (pv 6) pa_nil))) (nomark _)) (pss_one (ps_ret pe_bl)) pss_nil)
      (pss_cons (ps_if (pt_cmpR (r := rNeD K) (op_neD hu64) (pe_call G_times hr3 rfl g_times k_times b_times .nil passL (pa_cons (pe_call G__law_product hr4 rfl g__law_product k__law_product b__law_product .nil pass0 (pa_cons (pe_slice (r := rSlQ K) sl_Q (pv 3) po_none (po_some (pv 8))) pa_nil)) (pa_cons (pe_call G__law_product hr4 rfl g__law_product k__law_product b__law_product .nil pass0 (pa_cons (pe_slice (r := rSlQ K) sl_Q (pv 3) (po_some (pv 8)) po_none) pa_nil)) pa_nil))) (pv 10) (nomark _)) (pss_one (ps_ret pe_bl)) pss_nil)
      (pss_cons (ps_set (i := 13) sc_law.nd rfl (by first | exact Or.inl rfl | exact Or.inr rfl) (pe_call G__law_sum hr4 rfl g__law_sum k__law_sum b__law_sum .nil pass0 (pa_cons (pe_lc (own := [("_law_one", 14)]) rfl sc_law.nd (pi_list (pv 3)) (blkOk_by (N := ["_law_script", "_law_pairs", "_law_cell", "_law_some", "_law_top", "_law_bottom", "_law_under", "_law_state", "_law_half", "_law_found", "_law_product_here", "_law_tops", "_law_pair", "_law_spread", "_law_one", "_law_low"]) (sc := defScope s_law) (by decide +kernel)) (fun _ _ _ _ _ => (pg_name (i := 14) sc_law.nd rfl (by first | exact Or.inl rfl | exact Or.inr rfl))) (fun _ _ _ _ _ => pts_nil) (fun _ _ _ _ _ => (pe_call G_times hr3 rfl g_times k_times b_times .nil passL (pa_cons (pe_ix (r := rIxL K) ix_list (pv 3) pe_int (fun _ _ => rfl)) (pa_cons (pv 14) pa_nil))))) pa_nil)))
      (pss_cons (ps_if (pt_cmpR (r := rNeD K) (op_neD hu64) (pv 13) (pe_call G_times hr3 rfl g_times k_times b_times .nil passL (pa_cons (pe_ix (r := rIxL K) ix_list (pv 3) pe_int (fun _ _ => rfl)) (pa_cons (pv 9) pa_nil))) (nomark _)) (pss_one (ps_ret pe_bl)) pss_nil)
      (pss_cons (ps_set (i := 15) sc_law.nd rfl (by first | exact Or.inl rfl | exact Or.inr rfl) (pe_callB (r := rSum K) (cr_sum rfl) (by rfl) bI_sum PyProof.Rows.boot_sum (pa_cons (pe_lc (own := [("_law_one", 14)]) rfl sc_law.nd (pi_list (pv 3)) (blkOk_by (N := ["_law_script", "_law_pairs", "_law_cell", "_law_some", "_law_top", "_law_bottom", "_law_under", "_law_state", "_law_half", "_law_found", "_law_product_here", "_law_tops", "_law_pair", "_law_spread", "_law_one", "_law_low"]) (sc := defScope s_law) (by decide +kernel)) (fun _ _ _ _ _ => (pg_name (i := 14) sc_law.nd rfl (by first | exact Or.inl rfl | exact Or.inr rfl))) (fun _ _ _ _ _ => pts_nil) (fun _ _ _ _ _ => (pe_call G_floor hr1 rfl g_floor k_floor b_floor .nil pass0 (pa_cons (pv 14) pa_nil)))) pa_nil)))
      (pss_one (ps_ret (pe_chain op_le op_lt (pv 15) (pe_call G_floor hr1 rfl g_floor k_floor b_floor .nil pass0 (pa_cons (pv 9) pa_nil)) (pe_op op_add (pv 15) (pe_callB (r := rLenY K) cr_len (by rfl) bI_len PySem.boot_len (pa_cons (pv 3) pa_nil)))))))))))))))))))))))), ?_⟩
    unfold m_law at P
    have st := Stp.refl (W := []) w
    refine h_set ?_
    refine h_lst ?_
    refine h_nil ?_
    refine h_newM w (ds := (([] : List (Tp2 Int Int))).map enc) (K := K) .nil (fun p1 H2 hn5 s3 m4 => ?_) (by show 0 ≤ sizeLine; decide)
    have n6 := st.nn hn5
    replace st := st.go s3 go0
    replace w := s3.ok
    refine h_seq ?_
    refine h_forE ?_
    refine h_sl ?_
    refine h_op ?_
    refine h_var rfl ?_
    refine h_lst ?_
    refine h_cons ?_
    refine h_c ?_
    refine h_cons ?_
    refine h_c ?_
    refine h_nil ?_
    refine h_newL w (ds := (([0, 1] : List Int)).map enc) (K := K) (.cons (Rep.int _) (.cons (Rep.int _) .nil)) (fun p7 B8 H9 s10 r11 => ?_) (by show 2 ≤ sizeLine; decide)
    replace m4 := m4.step s10 nm0
    replace st := st.go s10 go0
    replace w := s10.ok
    replace r11 : Rep K B8 (.ref p7) (enc ([0, 1] : List Int)) := r11
    obtain ⟨p12, xs13, rfl, hs14, hr15⟩ := Bor.sq (r_script.step st)
    obtain ⟨p16, xs17, hv, hs18, hr19⟩ := Rep.sq w r11
    cases hv
    obtain ⟨gd, P⟩ := P.guard
    refine h_cat hs14 hs18 (by have g := gd; simp only [hr15.length, hr19.length, List.length_map] at g ⊢; exact Nat.le_trans g (by decide)) ?_
    refine h_nwL w (ds := ((a_script ++ ([0, 1] : List Int))).map enc) (K := K) (RepL.cat hr15 hr19) (fun p20 B21 H22 s23 r24 => ?_) 
    replace m4 := m4.step s23 nm0
    replace st := st.go s23 go0
    replace w := s23.ok
    replace r24 : Rep K B21 (.ref p20) (enc (a_script ++ ([0, 1] : List Int))) := r24
    refine h_nopart ?_
    refine h_part ?_
    refine h_c ?_
    refine h_isI ?_
    obtain ⟨p25, xs26, hv, hs27, hr28⟩ := Rep.sq w r24
    cases hv
    refine h_slQ hs27 ?_
    refine h_nwL w (ds := ((cutL (a_script ++ ([0, 1] : List Int)) none (some 12))).map enc) (K := K) (hr28.cut none (some 12)) (fun p29 B30 H31 s32 r33 => ?_) 
    replace m4 := m4.step s32 nm0
    replace st := st.go s32 go0
    replace w := s32.ok
    replace r33 : Rep K B30 (.ref p29) (enc (cutL (a_script ++ ([0, 1] : List Int)) none (some 12))) := r33
    obtain ⟨p34, xs35, hv, hb36, hr37⟩ := Rep.sqB r33
    cases hv
    have wj39 := w
    have sj38 := Stp.refl (W := [p1]) w
    refine h_forL P (w.l hb36) hr37 (fun (a : (List (Tp2 Int Int))) σ' H' => ∃ (B' : Hp) (o__law_cell : Option V), Stp [p1] B30 H31 B' H' ∧ σ' = [some ((.ref p12)), some ((.ref p1)), o__law_cell, none, none, none, none, none, none, none, none, none, none, none, none, none] ∧ Mu K B' H' p1 (a.map enc)) ⟨_, _, sj38, rfl, m4⟩ (fun _ _ _ j => ?_) ?_ ?_
    · obtain ⟨B49, o52, s51, rfl, m4⟩ := j
      exact s51.ok.l (s51.ex.l hb36)
    · rintro N40 T41 x46 v47 a45 _ H50 ⟨B49, o52, s51, rfl, m4⟩ r48 kk42 kr43 kb44 P
      replace st := st.go s51 (go1 (.inr n6))
      replace w := s51.ok
      have sj38 := s51
      replace r48 := r48.mono sj38.ex
      cases r48
      refine h_gname ?_
      refine h_drop ?_
      refine h_bm ?_
      refine h_var rfl ?_
      refine h_bmL m4 ?_
      refine h_cons ?_
      refine h_call ?_
      refine h_cons ?_
      refine h_lst ?_
      refine h_cons ?_
      refine h_var rfl ?_
      refine h_nil ?_
      refine h_newM w (ds := (([x46] : List Int)).map enc) (K := K) (.cons (Rep.int _) .nil) (fun p53 H54 hn57 s55 m56 => ?_) (by show 1 ≤ sizeLine; decide)
      have n58 := st.nn hn57
      have n59 := sj38.nn hn57
      have ne60 := Mu.ne m4 hn57
      replace m4 := m4.step s55 nm0
      replace st := st.go s55 go0
      replace sj38 := sj38.go s55 go0
      replace w := s55.ok
      refine h_cons ?_
      refine h_var rfl ?_
      refine h_nil ?_
      refine ⟨B49, p53, ([x46] : List Int), (.ref p1), a45, w, rfl, m56, (m4.bor (nm1 ne60)), (P.bind).mono (fun x61 P => ?_) (fun _ z => z)⟩
      refine fun v65 B62 H63 s64 m56 r66 => ?_
      replace m4 := m4.step s64 (nm1 ne60)
      replace st := st.go s64 (go1 (.inr n58))
      replace sj38 := sj38.go s64 (go1 (.inr n59))
      replace w := s64.ok
      refine h_nil ?_
      obtain ⟨gd, P⟩ := P.guard
      refine h_append (b := x61.1) w m4 r66 gd (fun H67 s68 m4 => ?_)
      replace st := st.go s68 (go1 (.inr n6))
      replace sj38 := sj38.go s68 (go1 (.inl (by simp)))
      replace w := s68.ok
      refine h_nx ?_
      exact kk42 (a45 ++ [x61.1]) _ _ ⟨_, _, sj38, rfl, m4⟩ P.ok
    · rintro a69 _ H71 ⟨B70, o73, s72, rfl, m4⟩ P
      replace st := st.go s72 (go1 (.inr n6))
      replace w := s72.ok
      refine h_nx ?_
      refine h_set ?_
      refine h_lcE ?_
      refine h_var rfl ?_
      obtain ⟨xs75, hb76, hs, hr77⟩ := Mu.sq m4
      refine h_lcL P (SqL.of hb76) hr77 (fun Dl (acc : List (Tp2 Int Int)) (a : Unit) H' => ∃ B', Stp [] B70 H71 B' H' ∧ H71 Dl = none ∧ Mu K B' H' Dl (acc.map enc) ∧ p1 ≠ Dl) (fun Dl hD => ⟨_, Stp.newM w hD, hD, Mu.new w hD .nil, Mu.ne m4 hD⟩) (fun _ _ _ _ j => ?_) ?_ ?_
      · obtain ⟨B87, s88, hD89, m90, ne94⟩ := j
        exact SqL.of (s88.fr _ _ nm0 hb76)
      · rintro Dl78 N79 T80 x81 v82 acc84 a85 H86 ⟨B87, s88, hD89, m90, ne94⟩ r83 hz91 kk92 kn93 P
        have wj96 := w
        have sj95 := s88
        have n97 := st.nn hD89
        replace m4 := m4.step s88 nm0
        replace st := st.go s88 go0
        replace w := s88.ok
        replace r83 := r83.mono s88.ex
        obtain ⟨p98, xs99, rfl, hs100, hr101⟩ := Rep.st w r83
        obtain ⟨u102, u104, rfl, r103, r105⟩ := RepL.open2 hr101
        refine h_tupG hs100 rfl ?_
        refine h_gcons ?_
        refine h_gname ?_
        cases r103
        refine h_gcons ?_
        refine h_gname ?_
        cases r105
        refine h_gnil ?_
        refine h_lcT rfl ?_
        refine h_call ?_
        refine h_cons ?_
        refine h_var rfl ?_
        refine h_cons ?_
        refine h_var rfl ?_
        refine h_nil ?_
        refine ⟨B87, .int x81.a, (enc (x81.a : Int)), .int x81.b, (enc (x81.b : Int)), w, rfl, (Rep.int _), (Rep.int _), (P.bind.noErr).mono (fun x106 P => ?_) (fun _ z => z.elim)⟩
        refine fun v110 B107 H108 s109 r111 => ?_
        replace m4 := m4.step s109 nm0
        replace m90 := m90.step s109 nm0
        replace st := st.go s109 go0
        replace sj95 := sj95.go s109 go0
        replace w := s109.ok
        refine h_app (b := x106) w m90 r111 hz91 (fun H112 s113 m90 => ?_)
        replace m4 := m4.step s113 (nm1 ne94)
        replace st := st.go s113 (go1 (.inr n97))
        replace sj95 := sj95.go s113 (go1 (.inr hD89))
        replace w := s113.ok
        exact kk92 x106 () _ ⟨_, sj95, hD89, m90, ne94⟩ P.ok
      · rintro Dl78 acc84 a85 H86 ⟨B87, s88, hD89, m90, ne94⟩ P
        have n114 := st.nn hD89
        replace m4 := m4.step s88 nm0
        replace st := st.go s88 go0
        replace w := s88.ok
        replace P := P.un2
        obtain ⟨B119, e115, k116, g117, r118⟩ := Mu.keep m90
        replace st := g117 _ _ _ st w0 n114
        replace m4 := m4.kp e115 k116 ne94
        replace w := st.ok
        replace r118 : Rep K B119 (.ref Dl78) (enc acc84) := r118
        refine h_seq ?_
        refine h_asg ?_
        refine h_call ?_
        refine h_cons ?_
        refine h_var rfl ?_
        refine h_nil ?_
        refine ⟨B119, (.ref p1), a69, w, rfl, (m4.bor nm0), (P.bind).mono (fun x120 P => ?_) (fun _ z => z)⟩
        refine fun v124 B121 H122 s123 r125 => ?_
        replace m4 := m4.step s123 nm0
        replace r118 := r118.mono s123.ex
        replace st := st.go s123 go0
        replace w := s123.ok
        obtain ⟨p126, xs127, rfl, hs128, hr129⟩ := Rep.st w r125
        obtain ⟨u130, u132, rfl, r131, r133⟩ := RepL.open2 hr129
        refine h_tupG hs128 rfl ?_
        refine h_gcons ?_
        refine h_gname ?_
        cases r131
        refine h_gcons ?_
        refine h_gname ?_
        cases r133
        refine h_gnil ?_
        refine h_nx ?_
        refine h_set ?_
        refine h_lst ?_
        refine h_cons ?_
        refine h_op ?_
        refine h_call ?_
        refine h_cons ?_
        refine h_var rfl ?_
        refine h_cons ?_
        refine h_c ?_
        refine h_nil ?_
        refine ⟨B121, (.ref p12), a_script, 0, w, rfl, ((r_script.step st).w sub0), (P.bind).mono (fun x134 P => ?_) (fun _ z => z)⟩
        refine fun v138 B135 H136 s137 r139 => ?_
        replace m4 := m4.step s137 nm0
        replace r118 := r118.mono s137.ex
        replace st := st.go s137 go0
        replace w := s137.ok
        cases r139
        refine h_c ?_
        refine h_I0 ?_
        refine h_nil ?_
        refine h_newM w (ds := (([(x134 + 1)] : List Int)).map enc) (K := K) (.cons (Rep.int _) .nil) (fun p140 H141 hn144 s142 m143 => ?_) (by show 1 ≤ sizeLine; decide)
        have n145 := st.nn hn144
        have ne146 := Mu.ne m4 hn144
        replace m4 := m4.step s142 nm0
        replace r118 := r118.mono s142.ex
        replace st := st.go s142 go0
        replace w := s142.ok
        refine h_set ?_
        refine h_call ?_
        refine h_cons ?_
        refine h_var rfl ?_
        refine h_cons ?_
        refine h_op ?_
        refine h_cb ?_
        refine h_cons ?_
        refine h_var rfl ?_
        refine h_nil ?_
        obtain ⟨p147, xs148, hv, hs149, hr150⟩ := Rep.sq w r118
        cases hv
        refine h_len hs149 hr150 ?_
        refine h_c ?_
        refine h_I0 ?_
        refine h_nil ?_
        refine ⟨B135, p140, ([(x134 + 1)] : List Int), ((acc84.length : Int) + 1), w, rfl, m143, (P.bind).mono (fun x151 P => ?_) (fun _ z => z)⟩
        refine fun v155 B152 H153 s154 m143 r156 => ?_
        replace m4 := m4.step s154 (nm1 ne146)
        replace r118 := r118.mono s154.ex
        replace st := st.go s154 (go1 (.inr n145))
        replace w := s154.ok
        cases r156
        refine h_set ?_
        refine h_call ?_
        refine h_cons ?_
        refine h_var rfl ?_
        refine h_nil ?_
        refine ⟨B152, (.ref Dl78), acc84, w, rfl, r118, (P.bind).mono (fun x157 P => ?_) (fun _ z => z)⟩
        refine fun v161 B158 H159 s160 r162 => ?_
        replace m4 := m4.step s160 nm0
        replace r118 := r118.mono s160.ex
        replace m143 := m143.step s160 nm0
        replace st := st.go s160 go0
        replace w := s160.ok
        refine h_seq <| h_if ?_
        refine h_tor ?_
        refine h_test ?_
        refine h_op ?_
        refine h_var rfl ?_
        refine h_call ?_
        refine h_cons ?_
        refine h_var rfl ?_
        refine h_cons ?_
        refine h_var rfl ?_
        refine h_nil ?_
        refine ⟨B158, x120.a, x120.b, w, rfl, (P.bind).mono (fun x163 P => ?_) (fun _ z => z)⟩
        refine fun v167 B164 H165 s166 r168 => ?_
        replace m4 := m4.step s166 nm0
        replace r118 := r118.mono s166.ex
        replace m143 := m143.step s166 nm0
        replace r162 := r162.mono s166.ex
        replace st := st.go s166 go0
        replace w := s166.ok
        obtain ⟨gd, P⟩ := P.guard
        refine h_neD (d := (enc x157)) (e := (enc x163)) w r162 r168 gd ?_
        refine h_bl ?_
        refine h_ite (fun c1 => ?_) (fun c1 => ?_)
        · replace P := P.iteT c1
          refine h_iteT ?_
          refine h_ret ?_
          refine h_c ?_
          exact P.ok _ _ _ st (Rep.bl _)
        · replace P := P.iteF c1
          refine h_test ?_
          refine h_op ?_
          refine h_call ?_
          refine h_cons ?_
          refine h_call ?_
          refine h_cons ?_
          refine h_sl ?_
          refine h_var rfl ?_
          refine h_nopart ?_
          refine h_part ?_
          refine h_var rfl ?_
          refine h_isI ?_
          obtain ⟨p169, xs170, hv, hs171, hr172⟩ := Rep.sq w r118
          cases hv
          refine h_slQ hs171 ?_
          refine h_nwL w (ds := ((cutL acc84 none (some x151.1))).map enc) (K := K) (hr172.cut none (some x151.1)) (fun p173 B174 H175 s176 r177 => ?_) 
          replace m4 := m4.step s176 nm0
          replace r118 := r118.mono s176.ex
          replace m143 := m143.step s176 nm0
          replace r162 := r162.mono s176.ex
          replace st := st.go s176 go0
          replace w := s176.ok
          replace r177 : Rep K B174 (.ref p173) (enc (cutL acc84 none (some x151.1))) := r177
          refine h_nil ?_
          refine ⟨B174, (.ref p173), (cutL acc84 none (some x151.1)), w, rfl, r177, (P.bind).mono (fun x178 P => ?_) (fun _ z => z)⟩
          refine fun v182 B179 H180 s181 r183 => ?_
          replace m4 := m4.step s181 nm0
          replace r118 := r118.mono s181.ex
          replace m143 := m143.step s181 nm0
          replace r162 := r162.mono s181.ex
          replace r177 := r177.mono s181.ex
          replace st := st.go s181 go0
          replace w := s181.ok
          refine h_cons ?_
          refine h_call ?_
          refine h_cons ?_
          refine h_sl ?_
          refine h_var rfl ?_
          refine h_part ?_
          refine h_var rfl ?_
          refine h_isI ?_
          refine h_nopart ?_
          obtain ⟨p184, xs185, hv, hs186, hr187⟩ := Rep.sq w r118
          cases hv
          refine h_slQ hs186 ?_
          refine h_nwL w (ds := ((cutL acc84 (some x151.1) none)).map enc) (K := K) (hr187.cut (some x151.1) none) (fun p188 B189 H190 s191 r192 => ?_) 
          replace m4 := m4.step s191 nm0
          replace r118 := r118.mono s191.ex
          replace m143 := m143.step s191 nm0
          replace r162 := r162.mono s191.ex
          replace r183 := r183.mono s191.ex
          replace st := st.go s191 go0
          replace w := s191.ok
          replace r192 : Rep K B189 (.ref p188) (enc (cutL acc84 (some x151.1) none)) := r192
          refine h_nil ?_
          refine ⟨B189, (.ref p188), (cutL acc84 (some x151.1) none), w, rfl, r192, (P.bind).mono (fun x193 P => ?_) (fun _ z => z)⟩
          refine fun v197 B194 H195 s196 r198 => ?_
          replace m4 := m4.step s196 nm0
          replace r118 := r118.mono s196.ex
          replace m143 := m143.step s196 nm0
          replace r162 := r162.mono s196.ex
          replace r183 := r183.mono s196.ex
          replace r192 := r192.mono s196.ex
          replace st := st.go s196 go0
          replace w := s196.ok
          refine h_nil ?_
          refine ⟨B194, v182, x178, v197, x193, w, rfl, r183, r198, (P.bind.noErr).mono (fun x199 P => ?_) (fun _ z => z.elim)⟩
          refine fun v203 B200 H201 s202 r204 => ?_
          replace m4 := m4.step s202 nm0
          replace r118 := r118.mono s202.ex
          replace m143 := m143.step s202 nm0
          replace r162 := r162.mono s202.ex
          replace r183 := r183.mono s202.ex
          replace r198 := r198.mono s202.ex
          replace st := st.go s202 go0
          replace w := s202.ok
          refine h_var rfl ?_
          obtain ⟨gd, P⟩ := P.guard
          refine h_neD (d := (enc x199)) (e := (enc x157)) w r204 r162 gd ?_
          refine h_bl ?_
          refine h_ite (fun c1 => ?_) (fun c1 => ?_)
          · replace P := P.iteT c1
            refine h_ret ?_
            refine h_c ?_
            exact P.ok _ _ _ st (Rep.bl _)
          · replace P := P.iteF c1
            refine h_next ?_
            refine h_nx ?_
            refine h_seq <| h_if ?_
            refine h_tor ?_
            refine h_test ?_
            refine h_op ?_
            refine h_call ?_
            refine h_cons ?_
            refine h_call ?_
            refine h_cons ?_
            refine h_var rfl ?_
            refine h_cons ?_
            refine h_var rfl ?_
            refine h_nil ?_
            refine ⟨B200, p140, x151.2, (.ref Dl78), acc84, w, rfl, m143, r118, (P.bind).mono (fun x205 P => ?_) (fun _ z => z)⟩
            refine fun v209 B206 H207 s208 m143 r210 => ?_
            replace m4 := m4.step s208 (nm1 ne146)
            replace r118 := r118.mono s208.ex
            replace r162 := r162.mono s208.ex
            replace st := st.go s208 (go1 (.inr n145))
            replace w := s208.ok
            refine h_nil ?_
            refine ⟨B206, v209, x205.1, w, rfl, r210, (P.bind).mono (fun x211 P => ?_) (fun _ z => z)⟩
            refine fun v215 B212 H213 s214 r216 => ?_
            replace m4 := m4.step s214 nm0
            replace r118 := r118.mono s214.ex
            replace m143 := m143.step s214 nm0
            replace r162 := r162.mono s214.ex
            replace r210 := r210.mono s214.ex
            replace st := st.go s214 go0
            replace w := s214.ok
            refine h_var rfl ?_
            obtain ⟨gd, P⟩ := P.guard
            refine h_neD (d := (enc x211)) (e := (enc x157)) w r216 r162 gd ?_
            refine h_bl ?_
            refine h_ite (fun c1 => ?_) (fun c1 => ?_)
            · replace P := P.iteT c1
              refine h_iteT ?_
              refine h_ret ?_
              refine h_c ?_
              exact P.ok _ _ _ st (Rep.bl _)
            · replace P := P.iteF c1
              refine h_test ?_
              refine h_op ?_
              refine h_call ?_
              refine h_cons ?_
              refine h_revL ?_
              refine h_var rfl ?_
              obtain ⟨p217, xs218, hv, hs219, hr220⟩ := Rep.sq w r118
              cases hv
              refine h_revQ hs219 ?_
              refine h_nwL w (ds := ((acc84.reverse)).map enc) (K := K) (RepL.rev hr220) (fun p221 B222 H223 s224 r225 => ?_) 
              replace m4 := m4.step s224 nm0
              replace r118 := r118.mono s224.ex
              replace m143 := m143.step s224 nm0
              replace r162 := r162.mono s224.ex
              replace st := st.go s224 go0
              replace w := s224.ok
              replace r225 : Rep K B222 (.ref p221) (enc (acc84.reverse)) := r225
              refine h_nil ?_
              refine ⟨B222, (.ref p221), (acc84.reverse), w, rfl, r225, (P.bind).mono (fun x226 P => ?_) (fun _ z => z)⟩
              refine fun v230 B227 H228 s229 r231 => ?_
              replace m4 := m4.step s229 nm0
              replace r118 := r118.mono s229.ex
              replace m143 := m143.step s229 nm0
              replace r162 := r162.mono s229.ex
              replace r225 := r225.mono s229.ex
              replace st := st.go s229 go0
              replace w := s229.ok
              refine h_var rfl ?_
              obtain ⟨gd, P⟩ := P.guard
              refine h_neD (d := (enc x226)) (e := (enc x157)) w r231 r162 gd ?_
              refine h_bl ?_
              refine h_ite (fun c1 => ?_) (fun c1 => ?_)
              · replace P := P.iteT c1
                refine h_ret ?_
                refine h_c ?_
                exact P.ok _ _ _ st (Rep.bl _)
              · replace P := P.iteF c1
                refine h_next ?_
                refine h_nx ?_
                refine h_set ?_
                refine h_call ?_
                refine h_cons ?_
                refine h_var rfl ?_
                refine h_nil ?_
                refine ⟨B227, (.ref Dl78), acc84, w, rfl, r118, (P.bind).mono (fun x232 P => ?_) (fun _ z => z)⟩
                refine fun v236 B233 H234 s235 r237 => ?_
                replace m4 := m4.step s235 nm0
                replace r118 := r118.mono s235.ex
                replace m143 := m143.step s235 nm0
                replace r162 := r162.mono s235.ex
                replace st := st.go s235 go0
                replace w := s235.ok
                refine h_seq <| h_if ?_
                refine h_tor ?_
                refine h_test ?_
                refine h_op ?_
                refine h_call ?_
                refine h_cons ?_
                refine h_call ?_
                refine h_cons ?_
                refine h_var rfl ?_
                refine h_cons ?_
                refine h_var rfl ?_
                refine h_nil ?_
                refine ⟨B233, p140, x205.2, (.ref Dl78), acc84, w, rfl, m143, r118, (P.bind).mono (fun x238 P => ?_) (fun _ z => z)⟩
                refine fun v242 B239 H240 s241 m143 r243 => ?_
                replace m4 := m4.step s241 (nm1 ne146)
                replace r118 := r118.mono s241.ex
                replace r162 := r162.mono s241.ex
                replace r237 := r237.mono s241.ex
                replace st := st.go s241 (go1 (.inr n145))
                replace w := s241.ok
                refine h_nil ?_
                refine ⟨B239, v242, x238.1, w, rfl, r243, (P.bind).mono (fun x244 P => ?_) (fun _ z => z)⟩
                refine fun v248 B245 H246 s247 r249 => ?_
                replace m4 := m4.step s247 nm0
                replace r118 := r118.mono s247.ex
                replace m143 := m143.step s247 nm0
                replace r162 := r162.mono s247.ex
                replace r237 := r237.mono s247.ex
                replace r243 := r243.mono s247.ex
                replace st := st.go s247 go0
                replace w := s247.ok
                refine h_var rfl ?_
                obtain ⟨gd, P⟩ := P.guard
                refine h_neD (d := (enc x244)) (e := (enc x232)) w r249 r237 gd ?_
                refine h_bl ?_
                refine h_ite (fun c1 => ?_) (fun c1 => ?_)
                · replace P := P.iteT c1
                  refine h_iteT ?_
                  refine h_ret ?_
                  refine h_c ?_
                  exact P.ok _ _ _ st (Rep.bl _)
                · replace P := P.iteF c1
                  refine h_tnot ?_
                  refine h_tB ?_
                  refine h_call ?_
                  refine h_cons ?_
                  refine h_var rfl ?_
                  refine h_nil ?_
                  refine ⟨B245, (.ref Dl78), acc84, w, rfl, r118, (P.bind).mono (fun x250 P => ?_) (fun _ z => z)⟩
                  refine fun v254 B251 H252 s253 r255 => ?_
                  replace m4 := m4.step s253 nm0
                  replace r118 := r118.mono s253.ex
                  replace m143 := m143.step s253 nm0
                  replace r162 := r162.mono s253.ex
                  replace r237 := r237.mono s253.ex
                  replace st := st.go s253 go0
                  replace w := s253.ok
                  cases r255
                  refine h_bl ?_
                  refine h_iteN (fun c1 => ?_) (fun c1 => ?_)
                  · replace P := P.iteF c1
                    refine h_ret ?_
                    refine h_c ?_
                    exact P.ok _ _ _ st (Rep.bl _)
                  · replace P := P.iteT c1
                    refine h_next ?_
                    refine h_nx ?_
                    refine h_set ?_
                    refine h_c ?_
                    refine h_seq ?_
                    refine h_forE ?_
                    refine h_var rfl ?_
                    obtain ⟨xs257, hb258, hs, hr259⟩ := Mu.sq m4
                    have wj261 := w
                    have sj260 := Stp.refl (W := []) w
                    refine h_forL P (SqL.of hb258) hr259 (fun (a : Int) σ' H' => ∃ (B' : Hp) (o__law_pair : Option V), Stp [] B251 H252 B' H' ∧ σ' = [some ((.ref p12)), some ((.ref p1)), o73, some ((.ref Dl78)), some (.int x120.a), none, some (.int x120.b), some ((.ref p140)), some (.int x151.1), some (v161), some (v236), some (.int a), o__law_pair, none, none, none]) ⟨_, _, sj260, rfl⟩ (fun _ _ _ j => ?_) ?_ ?_
                    · obtain ⟨B271, o274, s273, rfl⟩ := j
                      exact SqL.of (s273.fr _ _ nm0 hb258)
                    · rintro N262 T263 x268 v269 a267 _ H272 ⟨B271, o274, s273, rfl⟩ r270 kk264 kr265 kb266 P
                      replace m4 := m4.step s273 nm0
                      replace r118 := r118.mono s273.ex
                      replace m143 := m143.step s273 nm0
                      replace r162 := r162.mono s273.ex
                      replace r237 := r237.mono s273.ex
                      replace st := st.go s273 go0
                      replace w := s273.ok
                      have sj260 := s273
                      replace r270 := r270.mono sj260.ex
                      refine h_gname ?_
                      refine h_set1 ?_
                      refine h_op ?_
                      refine h_var rfl ?_
                      refine h_op ?_
                      refine h_var rfl ?_
                      refine h_c ?_
                      obtain ⟨p275, xs276, rfl, hs277, hr278⟩ := Rep.st w r270
                      obtain ⟨u279, hu, r280⟩ := RepL.at hr278 (i := 0) rfl
                      refine h_ixT hs277 hu ?_
                      cases r280
                      obtain ⟨gd, P⟩ := P.guard
                      refine h_I gd ?_
                      replace P := P.lt
                      generalize hx : (a267 * x268.a) = x281 at P ⊢
                      refine h_nx ?_
                      exact kk264 x281 _ _ ⟨_, _, sj260, rfl⟩ P.ok
                    · rintro a282 _ H284 ⟨B283, o286, s285, rfl⟩ P
                      replace m4 := m4.step s285 nm0
                      replace r118 := r118.mono s285.ex
                      replace m143 := m143.step s285 nm0
                      replace r162 := r162.mono s285.ex
                      replace r237 := r237.mono s285.ex
                      replace st := st.go s285 go0
                      replace w := s285.ok
                      refine h_nx ?_
                      refine h_seq <| h_if ?_
                      refine h_test ?_
                      refine h_op ?_
                      refine h_var rfl ?_
                      refine h_call ?_
                      refine h_cons ?_
                      refine h_var rfl ?_
                      refine h_cons ?_
                      refine h_var rfl ?_
                      refine h_nil ?_
                      refine ⟨B283, a282, x120.b, w, rfl, (P.bind).mono (fun x287 P => ?_) (fun _ z => z)⟩
                      refine fun v291 B288 H289 s290 r292 => ?_
                      replace m4 := m4.step s290 nm0
                      replace r118 := r118.mono s290.ex
                      replace m143 := m143.step s290 nm0
                      replace r162 := r162.mono s290.ex
                      replace r237 := r237.mono s290.ex
                      replace st := st.go s290 go0
                      replace w := s290.ok
                      obtain ⟨gd, P⟩ := P.guard
                      refine h_neD (d := (enc x232)) (e := (enc x287)) w r237 r292 gd ?_
                      refine h_bl ?_
                      refine h_ite (fun c1 => ?_) (fun c1 => ?_)
                      · replace P := P.iteT c1
                        refine h_ret ?_
                        refine h_c ?_
                        exact P.ok _ _ _ st (Rep.bl _)
                      · replace P := P.iteF c1
                        refine h_next ?_
                        refine h_nx ?_
                        refine h_seq <| h_if ?_
                        refine h_test ?_
                        refine h_op ?_
                        refine h_call ?_
                        refine h_cons ?_
                        refine h_call ?_
                        refine h_cons ?_
                        refine h_sl ?_
                        refine h_var rfl ?_
                        refine h_nopart ?_
                        refine h_part ?_
                        refine h_var rfl ?_
                        refine h_isI ?_
                        obtain ⟨p293, xs294, hv, hs295, hr296⟩ := Rep.sq w r118
                        cases hv
                        refine h_slQ hs295 ?_
                        refine h_nwL w (ds := ((cutL acc84 none (some x151.1))).map enc) (K := K) (hr296.cut none (some x151.1)) (fun p297 B298 H299 s300 r301 => ?_) 
                        replace m4 := m4.step s300 nm0
                        replace r118 := r118.mono s300.ex
                        replace m143 := m143.step s300 nm0
                        replace r162 := r162.mono s300.ex
                        replace r237 := r237.mono s300.ex
                        replace st := st.go s300 go0
                        replace w := s300.ok
                        replace r301 : Rep K B298 (.ref p297) (enc (cutL acc84 none (some x151.1))) := r301
                        refine h_nil ?_
                        refine ⟨B298, (.ref p297), (cutL acc84 none (some x151.1)), w, rfl, r301, (P.bind).mono (fun x302 P => ?_) (fun _ z => z)⟩
                        refine fun v306 B303 H304 s305 r307 => ?_
                        replace m4 := m4.step s305 nm0
                        replace r118 := r118.mono s305.ex
                        replace m143 := m143.step s305 nm0
                        replace r162 := r162.mono s305.ex
                        replace r237 := r237.mono s305.ex
                        replace r301 := r301.mono s305.ex
                        replace st := st.go s305 go0
                        replace w := s305.ok
                        refine h_cons ?_
                        refine h_call ?_
                        refine h_cons ?_
                        refine h_sl ?_
                        refine h_var rfl ?_
                        refine h_part ?_
                        refine h_var rfl ?_
                        refine h_isI ?_
                        refine h_nopart ?_
                        obtain ⟨p308, xs309, hv, hs310, hr311⟩ := Rep.sq w r118
                        cases hv
                        refine h_slQ hs310 ?_
                        refine h_nwL w (ds := ((cutL acc84 (some x151.1) none)).map enc) (K := K) (hr311.cut (some x151.1) none) (fun p312 B313 H314 s315 r316 => ?_) 
                        replace m4 := m4.step s315 nm0
                        replace r118 := r118.mono s315.ex
                        replace m143 := m143.step s315 nm0
                        replace r162 := r162.mono s315.ex
                        replace r237 := r237.mono s315.ex
                        replace r307 := r307.mono s315.ex
                        replace st := st.go s315 go0
                        replace w := s315.ok
                        replace r316 : Rep K B313 (.ref p312) (enc (cutL acc84 (some x151.1) none)) := r316
                        refine h_nil ?_
                        refine ⟨B313, (.ref p312), (cutL acc84 (some x151.1) none), w, rfl, r316, (P.bind).mono (fun x317 P => ?_) (fun _ z => z)⟩
                        refine fun v321 B318 H319 s320 r322 => ?_
                        replace m4 := m4.step s320 nm0
                        replace r118 := r118.mono s320.ex
                        replace m143 := m143.step s320 nm0
                        replace r162 := r162.mono s320.ex
                        replace r237 := r237.mono s320.ex
                        replace r307 := r307.mono s320.ex
                        replace r316 := r316.mono s320.ex
                        replace st := st.go s320 go0
                        replace w := s320.ok
                        refine h_nil ?_
                        refine ⟨B318, v306, x302, v321, x317, w, rfl, r307, r322, (P.bind.noErr).mono (fun x323 P => ?_) (fun _ z => z.elim)⟩
                        refine fun v327 B324 H325 s326 r328 => ?_
                        replace m4 := m4.step s326 nm0
                        replace r118 := r118.mono s326.ex
                        replace m143 := m143.step s326 nm0
                        replace r162 := r162.mono s326.ex
                        replace r237 := r237.mono s326.ex
                        replace r307 := r307.mono s326.ex
                        replace r322 := r322.mono s326.ex
                        replace st := st.go s326 go0
                        replace w := s326.ok
                        refine h_var rfl ?_
                        obtain ⟨gd, P⟩ := P.guard
                        refine h_neD (d := (enc x323)) (e := (enc x232)) w r328 r237 gd ?_
                        refine h_bl ?_
                        refine h_ite (fun c1 => ?_) (fun c1 => ?_)
                        · replace P := P.iteT c1
                          refine h_ret ?_
                          refine h_c ?_
                          exact P.ok _ _ _ st (Rep.bl _)
                        · replace P := P.iteF c1
                          refine h_next ?_
                          refine h_nx ?_
                          refine h_set ?_
                          refine h_call ?_
                          refine h_cons ?_
                          refine h_lcE ?_
                          refine h_var rfl ?_
                          obtain ⟨p329, xs330, hv, hb331, hr332⟩ := Rep.sqB r118
                          cases hv
                          refine h_lcL P (w.l hb331) hr332 (fun Dl (acc : List (Tp2 Int Int)) (a : Unit) H' => ∃ B', Stp [] B324 H325 B' H' ∧ H325 Dl = none ∧ Mu K B' H' Dl (acc.map enc) ∧ p1 ≠ Dl ∧ p140 ≠ Dl) (fun Dl hD => ⟨_, Stp.newM w hD, hD, Mu.new w hD .nil, Mu.ne m4 hD, Mu.ne m143 hD⟩) (fun _ _ _ _ j => ?_) ?_ ?_
                          · obtain ⟨B342, s343, hD344, m345, ne349, ne350⟩ := j
                            exact s343.ok.l (s343.ex.l hb331)
                          · rintro Dl333 N334 T335 x336 v337 acc339 a340 H341 ⟨B342, s343, hD344, m345, ne349, ne350⟩ r338 hz346 kk347 kn348 P
                            have wj352 := w
                            have sj351 := s343
                            have n353 := st.nn hD344
                            replace m4 := m4.step s343 nm0
                            replace r118 := r118.mono s343.ex
                            replace m143 := m143.step s343 nm0
                            replace r162 := r162.mono s343.ex
                            replace r237 := r237.mono s343.ex
                            replace st := st.go s343 go0
                            replace w := s343.ok
                            replace r338 := r338.mono s343.ex
                            refine h_gname ?_
                            refine h_lcT rfl ?_
                            refine h_call ?_
                            refine h_cons ?_
                            refine h_op ?_
                            refine h_var rfl ?_
                            refine h_c ?_
                            obtain ⟨p354, xs355, hv, hs356, hr357⟩ := Rep.sq w r118
                            cases hv
                            obtain ⟨x358, hx359, P⟩ := P.ix
                            obtain ⟨u360, hu, r361⟩ := RepL.atE hr357 hx359
                            refine h_ixL hs356 hu ?_
                            refine h_cons ?_
                            refine h_var rfl ?_
                            refine h_nil ?_
                            refine ⟨B342, u360, x358, v337, x336, w, rfl, r361, r338, (P.bind.noErr).mono (fun x362 P => ?_) (fun _ z => z.elim)⟩
                            refine fun v366 B363 H364 s365 r367 => ?_
                            replace m4 := m4.step s365 nm0
                            replace r118 := r118.mono s365.ex
                            replace m143 := m143.step s365 nm0
                            replace r162 := r162.mono s365.ex
                            replace r237 := r237.mono s365.ex
                            replace r338 := r338.mono s365.ex
                            replace m345 := m345.step s365 nm0
                            replace r361 := r361.mono s365.ex
                            replace st := st.go s365 go0
                            replace sj351 := sj351.go s365 go0
                            replace w := s365.ok
                            refine h_app (b := x362) w m345 r367 hz346 (fun H368 s369 m345 => ?_)
                            replace m4 := m4.step s369 (nm1 ne349)
                            replace r118 := r118.mono s369.ex
                            replace m143 := m143.step s369 (nm1 ne350)
                            replace r162 := r162.mono s369.ex
                            replace r237 := r237.mono s369.ex
                            replace r338 := r338.mono s369.ex
                            replace st := st.go s369 (go1 (.inr n353))
                            replace sj351 := sj351.go s369 (go1 (.inr hD344))
                            replace w := s369.ok
                            exact kk347 x362 () _ ⟨_, sj351, hD344, m345, ne349, ne350⟩ P.ok
                          · rintro Dl333 acc339 a340 H341 ⟨B342, s343, hD344, m345, ne349, ne350⟩ P
                            have n370 := st.nn hD344
                            replace m4 := m4.step s343 nm0
                            replace r118 := r118.mono s343.ex
                            replace m143 := m143.step s343 nm0
                            replace r162 := r162.mono s343.ex
                            replace r237 := r237.mono s343.ex
                            replace st := st.go s343 go0
                            replace w := s343.ok
                            replace P := P.un2
                            obtain ⟨B375, e371, k372, g373, r374⟩ := Mu.keep m345
                            replace st := g373 _ _ _ st w0 n370
                            replace m4 := m4.kp e371 k372 ne349
                            replace r118 := r118.mono e371
                            replace m143 := m143.kp e371 k372 ne350
                            replace r162 := r162.mono e371
                            replace r237 := r237.mono e371
                            replace w := st.ok
                            replace r374 : Rep K B375 (.ref Dl333) (enc acc339) := r374
                            refine h_nil ?_
                            refine ⟨B375, (.ref Dl333), acc339, w, rfl, r374, (P.bind).mono (fun x376 P => ?_) (fun _ z => z)⟩
                            refine fun v380 B377 H378 s379 r381 => ?_
                            replace m4 := m4.step s379 nm0
                            replace r118 := r118.mono s379.ex
                            replace m143 := m143.step s379 nm0
                            replace r162 := r162.mono s379.ex
                            replace r237 := r237.mono s379.ex
                            replace r374 := r374.mono s379.ex
                            replace st := st.go s379 go0
                            replace w := s379.ok
                            refine h_seq <| h_if ?_
                            refine h_test ?_
                            refine h_op ?_
                            refine h_var rfl ?_
                            refine h_call ?_
                            refine h_cons ?_
                            refine h_op ?_
                            refine h_var rfl ?_
                            refine h_c ?_
                            obtain ⟨p382, xs383, hv, hs384, hr385⟩ := Rep.sq w r118
                            cases hv
                            obtain ⟨x386, hx387, P⟩ := P.ix
                            obtain ⟨u388, hu, r389⟩ := RepL.atE hr385 hx387
                            refine h_ixL hs384 hu ?_
                            refine h_cons ?_
                            refine h_var rfl ?_
                            refine h_nil ?_
                            refine ⟨B377, u388, x386, v161, x157, w, rfl, r389, r162, (P.bind.noErr).mono (fun x390 P => ?_) (fun _ z => z.elim)⟩
                            refine fun v394 B391 H392 s393 r395 => ?_
                            replace m4 := m4.step s393 nm0
                            replace r118 := r118.mono s393.ex
                            replace m143 := m143.step s393 nm0
                            replace r162 := r162.mono s393.ex
                            replace r237 := r237.mono s393.ex
                            replace r381 := r381.mono s393.ex
                            replace r389 := r389.mono s393.ex
                            replace st := st.go s393 go0
                            replace w := s393.ok
                            obtain ⟨gd, P⟩ := P.guard
                            refine h_neD (d := (enc x376)) (e := (enc x390)) w r381 r395 gd ?_
                            refine h_bl ?_
                            refine h_ite (fun c1 => ?_) (fun c1 => ?_)
                            · replace P := P.iteT c1
                              refine h_ret ?_
                              refine h_c ?_
                              exact P.ok _ _ _ st (Rep.bl _)
                            · replace P := P.iteF c1
                              refine h_next ?_
                              refine h_nx ?_
                              refine h_set ?_
                              refine h_cb ?_
                              refine h_cons ?_
                              refine h_lcE ?_
                              refine h_var rfl ?_
                              obtain ⟨p396, xs397, hv, hb398, hr399⟩ := Rep.sqB r118
                              cases hv
                              refine h_lcL P (w.l hb398) hr399 (fun Dl (acc : List Int) (a : Unit) H' => ∃ B', Stp [] B391 H392 B' H' ∧ H392 Dl = none ∧ Mu K B' H' Dl (acc.map enc) ∧ p1 ≠ Dl ∧ p140 ≠ Dl) (fun Dl hD => ⟨_, Stp.newM w hD, hD, Mu.new w hD .nil, Mu.ne m4 hD, Mu.ne m143 hD⟩) (fun _ _ _ _ j => ?_) ?_ ?_
                              · obtain ⟨B409, s410, hD411, m412, ne416, ne417⟩ := j
                                exact s410.ok.l (s410.ex.l hb398)
                              · rintro Dl400 N401 T402 x403 v404 acc406 a407 H408 ⟨B409, s410, hD411, m412, ne416, ne417⟩ r405 hz413 kk414 kn415 P
                                have wj419 := w
                                have sj418 := s410
                                have n420 := st.nn hD411
                                replace m4 := m4.step s410 nm0
                                replace r118 := r118.mono s410.ex
                                replace m143 := m143.step s410 nm0
                                replace r162 := r162.mono s410.ex
                                replace r237 := r237.mono s410.ex
                                replace r381 := r381.mono s410.ex
                                replace st := st.go s410 go0
                                replace w := s410.ok
                                replace r405 := r405.mono s410.ex
                                refine h_gname ?_
                                refine h_lcT rfl ?_
                                refine h_call ?_
                                refine h_cons ?_
                                refine h_var rfl ?_
                                refine h_nil ?_
                                refine ⟨B409, v404, x403, w, rfl, r405, (P.bind).mono (fun x421 P => ?_) (fun _ z => z)⟩
                                refine fun v425 B422 H423 s424 r426 => ?_
                                replace m4 := m4.step s424 nm0
                                replace r118 := r118.mono s424.ex
                                replace m143 := m143.step s424 nm0
                                replace r162 := r162.mono s424.ex
                                replace r237 := r237.mono s424.ex
                                replace r381 := r381.mono s424.ex
                                replace r405 := r405.mono s424.ex
                                replace m412 := m412.step s424 nm0
                                replace st := st.go s424 go0
                                replace sj418 := sj418.go s424 go0
                                replace w := s424.ok
                                cases r426
                                refine h_app (b := x421) w m412 (Rep.int _) hz413 (fun H427 s428 m412 => ?_)
                                replace m4 := m4.step s428 (nm1 ne416)
                                replace r118 := r118.mono s428.ex
                                replace m143 := m143.step s428 (nm1 ne417)
                                replace r162 := r162.mono s428.ex
                                replace r237 := r237.mono s428.ex
                                replace r381 := r381.mono s428.ex
                                replace r405 := r405.mono s428.ex
                                replace st := st.go s428 (go1 (.inr n420))
                                replace sj418 := sj418.go s428 (go1 (.inr hD411))
                                replace w := s428.ok
                                exact kk414 x421 () _ ⟨_, sj418, hD411, m412, ne416, ne417⟩ P.ok
                              · rintro Dl400 acc406 a407 H408 ⟨B409, s410, hD411, m412, ne416, ne417⟩ P
                                have n429 := st.nn hD411
                                replace m4 := m4.step s410 nm0
                                replace r118 := r118.mono s410.ex
                                replace m143 := m143.step s410 nm0
                                replace r162 := r162.mono s410.ex
                                replace r237 := r237.mono s410.ex
                                replace r381 := r381.mono s410.ex
                                replace st := st.go s410 go0
                                replace w := s410.ok
                                replace P := P.un2
                                obtain ⟨B434, e430, k431, g432, r433⟩ := Mu.keep m412
                                replace st := g432 _ _ _ st w0 n429
                                replace m4 := m4.kp e430 k431 ne416
                                replace r118 := r118.mono e430
                                replace m143 := m143.kp e430 k431 ne417
                                replace r162 := r162.mono e430
                                replace r237 := r237.mono e430
                                replace r381 := r381.mono e430
                                replace w := st.ok
                                replace r433 : Rep K B434 (.ref Dl400) (enc acc406) := r433
                                refine h_nil ?_
                                obtain ⟨p435, xs436, hv, hs437, hr438⟩ := Rep.sq w r433
                                cases hv
                                refine h_sum hs437 hr438 ?_
                                refine h_ret ?_
                                refine h_chain ?_
                                refine h_var rfl ?_
                                refine h_call ?_
                                refine h_cons ?_
                                refine h_var rfl ?_
                                refine h_nil ?_
                                refine ⟨B434, v161, x157, w, rfl, r162, (P.bind).mono (fun x439 P => ?_) (fun _ z => z)⟩
                                refine fun v443 B440 H441 s442 r444 => ?_
                                replace m4 := m4.step s442 nm0
                                replace r118 := r118.mono s442.ex
                                replace m143 := m143.step s442 nm0
                                replace r162 := r162.mono s442.ex
                                replace r237 := r237.mono s442.ex
                                replace r381 := r381.mono s442.ex
                                replace st := st.go s442 go0
                                replace w := s442.ok
                                cases r444
                                refine h_I0 ?_
                                refine h_bl ?_
                                refine h_ite (fun c1 => ?_) (fun c1 => ?_)
                                · replace P := P.iteT c1
                                  refine h_op ?_
                                  refine h_var rfl ?_
                                  refine h_cb ?_
                                  refine h_cons ?_
                                  refine h_var rfl ?_
                                  refine h_nil ?_
                                  obtain ⟨p445, xs446, hv, hs447, hr448⟩ := Rep.sq w r118
                                  cases hv
                                  refine h_len hs447 hr448 ?_
                                  refine h_I0 ?_
                                  refine h_I0 ?_
                                  exact P.ok _ _ _ st (Rep.bl _)
                                · replace P := P.iteF c1
                                  exact P.ok _ _ _ st (Rep.bl _)
end
end A
set_option Elab.async false
set_option linter.all false
set_option maxRecDepth 100000
set_option maxHeartbeats 2000000
namespace Y
open PySem PySem.Spec PyProof.Rows L2
open Enc (enc)
/-! # plain mathematics over mirrors -/
/-- m gives a value, and φ of it -/
def Ok {α : Type} (m : Res α) (φ : α → Prop) : Prop := ∃ a, m = .ok a ∧ φ a
section
variable {α β : Type} {m : Res α} {φ φ' : α → Prop} {k : α → Res β} {ψ : β → Prop} {a : α} {c : Bool} {i : Int} {l : List α}
theorem Ok.pure (h : φ a) : Ok (.ok a) φ := ⟨a, rfl, h⟩
theorem Ok.bind (h : Ok m φ) (hk : ∀ a, φ a → Ok (k a) ψ) : Ok (m.bind k) ψ := by
  obtain ⟨a, e, p⟩ := h
  rw [e]
  exact hk a p
theorem Ok.bindE (e : m = .ok a) (h : Ok (k a) ψ) : Ok (m.bind k) ψ := by rw [e]; exact h
theorem Ok.mono (h : Ok m φ) (hk : ∀ a, φ a → φ' a) : Ok m φ' := by
  obtain ⟨a, e, p⟩ := h
  exact ⟨a, e, hk a p⟩
theorem Ok.ite {m m' : Res α} (h1 : c = true → Ok m φ) (h2 : c = false → Ok m' φ) : Ok (if c = true then m else m') φ := by
  cases c
  · rw [if_neg Bool.false_ne_true]; exact h2 rfl
  · rw [if_pos rfl]; exact h1 rfl
theorem Ok.iteT {m m' : Res α} (hc : c = true) (h : Ok m φ) : Ok (if c = true then m else m') φ := by
  rw [if_pos hc]; exact h
theorem Ok.iteF {m m' : Res α} (hc : c = false) (h : Ok m' φ) : Ok (if c = true then m else m') φ := by
  rw [hc, if_neg Bool.false_ne_true]; exact h
theorem Ok.guard {p : Prop} [Decidable p] (hp : p) (h : Ok m φ) : Ok (guardR p m) φ := by
  unfold guardR; rw [if_pos hp]; exact h
theorem Ok.lt {d : α} (h : Ok (k d) ψ) : Ok (Y.lt d k) ψ := h
theorem Ok.noErr (h : Ok m φ) : Ok m.noErr φ := by
  obtain ⟨a, e, p⟩ := h
  exact ⟨a, by rw [e]; rfl, p⟩
theorem atI_in (h0 : 0 ≤ i) (h1 : i < (l.length : Int)) : ∃ x, atI l i = some x ∧ l[i.toNat]? = some x ∧ x ∈ l := by
  have h2 : i.toNat < l.length := by omega
  have e : ixN l.length i = some i.toNat := by unfold ixN; rw [if_pos h0, if_pos h1]
  refine ⟨l[i.toNat], ?_, List.getElem?_eq_getElem h2, List.getElem_mem h2⟩
  unfold atI
  rw [e]
  exact List.getElem?_eq_getElem h2
theorem Ok.ix (h0 : 0 ≤ i) (h1 : i < (l.length : Int)) (h : ∀ x, x ∈ l → l[i.toNat]? = some x → Ok (k x) ψ) : Ok ((ixR l i).bind k) ψ := by
  obtain ⟨x, e, e2, m⟩ := atI_in h0 h1
  unfold ixR
  rw [e]
  exact h x m e2
theorem Ok.ixs {x : α} (e : ixR l i = .ok x) (h : Ok (k x) ψ) : Ok ((ixR l i).bind k) ψ := by rw [e]; exact h
/-- an item of a written list -/
theorem Ok.ixm (h0 : 0 ≤ i) (h1 : i < (l.length : Int)) (h : ∀ x, x ∈ l → Ok (k x) ψ) : Ok ((ixR l i).bind k) ψ := Ok.ix h0 h1 fun x m _ => h x m
/-- a loop that keeps I and ends by itself -/
theorem Ok.for {S R : Type} {f : α → S → Res (Fl S R)} (I : S → Prop) (hf : ∀ x s, x ∈ l → I s → Ok (f x s) fun r => ∃ s', r = .nx s' ∧ I s') : ∀ {s : S}, I s → Ok (forR l s f) fun r => ∃ s', r = .nx s' ∧ I s' := by
  induction l with
  | nil => intro s h; exact ⟨_, rfl, s, rfl, h⟩
  | cons x xs ih =>
    intro s h
    refine Ok.bind (hf x s List.mem_cons_self h) ?_
    rintro r ⟨s', rfl, h'⟩
    exact ih (fun y s m h => hf y s (List.mem_cons_of_mem _ m) h) h'
/-- a comprehension: each turn gives a good thing and keeps I -/
theorem Ok.compL {S R : Type} {f : α → S → Res (Option R × S)} (I : S → Prop) (G : R → Prop) (hf : ∀ x s, x ∈ l → I s → Ok (f x s) fun r => I r.2 ∧ ∀ b, r.1 = some b → G b) : ∀ {s : S}, I s → Ok (compL l s f) fun r => I r.2 ∧ ∀ b ∈ r.1, G b := by
  induction l with
  | nil => intro s h; exact ⟨_, rfl, h, fun _ m => nomatch m⟩
  | cons x xs ih =>
    intro s h
    refine Ok.bind (hf x s List.mem_cons_self h) ?_
    rintro ⟨o, s'⟩ ⟨h', g⟩
    refine Ok.bind (ih (fun y s m h => hf y s (List.mem_cons_of_mem _ m) h) h') ?_
    rintro ⟨bs, s2⟩ ⟨h2, g2⟩
    refine ⟨_, rfl, h2, fun b m => ?_⟩
    cases o with
    | none => exact g2 b m
    | some b0 =>
      rcases List.mem_cons.mp m with e | m
      · rw [e]; exact g b0 rfl
      · exact g2 b m
theorem Ok.comp {S R : Type} {f : α → S → Res (Option R × S)} {s : S} (hl : l.length ≤ 1000000) (I : S → Prop) (G : R → Prop) (hf : ∀ x s, x ∈ l → I s → Ok (f x s) fun r => I r.2 ∧ ∀ b, r.1 = some b → G b) (h : I s) : Ok (compR l s f) fun r => I r.2 ∧ ∀ b ∈ r.1, G b := Ok.guard hl (Ok.compL I G hf h)
/-- .. and no more things than turns -/
theorem Ok.compLen {S R : Type} {f : α → S → Res (Option R × S)} {s : S} (hl : l.length ≤ 1000000) (I : S → Prop) (G : R → Prop) (hf : ∀ x s, x ∈ l → I s → Ok (f x s) fun r => I r.2 ∧ ∀ b, r.1 = some b → G b) (h : I s) : Ok (compR l s f) fun r => I r.2 ∧ (∀ b ∈ r.1, G b) ∧ r.1.length ≤ l.length := by
  refine Ok.guard hl ?_
  clear hl
  induction l generalizing s with
  | nil => exact ⟨_, rfl, h, (fun _ m => nomatch m), Nat.le_refl _⟩
  | cons x xs ih =>
    refine Ok.bind (hf x s List.mem_cons_self h) ?_
    rintro ⟨o, s'⟩ ⟨h', g⟩
    refine Ok.bind (ih (fun y s m h => hf y s (List.mem_cons_of_mem _ m) h) h') ?_
    rintro ⟨bs, s2⟩ ⟨h2, g2, g3⟩
    refine ⟨_, rfl, h2, fun b m => ?_, ?_⟩
    · cases o with
      | none => exact g2 b m
      | some b0 =>
        rcases List.mem_cons.mp m with e | m
        · rw [e]; exact g b0 rfl
        · exact g2 b m
    · cases o with
      | none => exact Nat.le_succ_of_le g3
      | some b0 => exact Nat.succ_le_succ g3
end
theorem log2_small {n b : Nat} (h : n < 2 ^ b) (h0 : 0 < b) : n.log2 < b := PySem.Flt.log2_lt_of h0 h
theorem mulW {i j : Int} {a b : Nat} (ha : i.natAbs < 2 ^ a) (hb : j.natAbs < 2 ^ b) (h0 : 0 < a := by decide) (h1 : 0 < b := by decide) (h : a + b ≤ 1000000 := by decide) : CMulW i j := wide_mul ha hb h0 h1 h
theorem divW {i j : Int} {b : Nat} (h : 0 < j) (hb : j.natAbs < 2 ^ b) (h0 : 0 < b := by decide) (h9 : b ≤ 9000 := by decide) : CDivW i j := wide_div h hb h0 h9
theorem cutL_mem {α : Type} {l : List α} {lo hi : Option Int} {x : α} (h : x ∈ cutL l lo hi) : x ∈ l := List.mem_of_mem_drop (List.mem_of_mem_take h)
theorem cutL_len {α : Type} {l : List α} {lo hi : Option Int} : (cutL l lo hi).length ≤ l.length := by
  unfold cutL
  rw [List.length_take, List.length_drop]
  omega
mutual
theorem eqv_refl : ∀ d : D, flatD d = true → PyData.eqv (pyD d) (pyD d) = true
  | .non, _ => rfl
  | .bl b, _ => by show (b == b) = true; simp
  | .int i, _ => by show (i == i) = true; simp
  | .str x, _ => by show (x == x) = true; simp
  | .lst ds, h => eqvs_refl ds h
  | .tup ds, h => eqvs_refl ds h
  | .dic _, h => nomatch h
theorem eqvs_refl : ∀ ds : List D, flatDs ds = true → PyData.eqvAll (pyDs ds) (pyDs ds) = true
  | [], _ => rfl
  | d :: ds, h => by
    have h' : (flatD d && flatDs ds) = true := h
    rw [Bool.and_eq_true] at h'
    show (PyData.eqv (pyD d) (pyD d) && PyData.eqvAll (pyDs ds) (pyDs ds)) = true
    rw [eqv_refl d h'.1, eqvs_refl ds h'.2]
    rfl
end
theorem eqD_refl {d : D} (h : flatD d = true) : eqD d d = true := eqv_refl d h
theorem flat_ints : ∀ l : List Int, flatDs (l.map enc) = true
  | [] => rfl
  | i :: l => by show (flatD (.int i) && flatDs (l.map enc)) = true; rw [flat_ints l]; rfl

mutual
/-- data that may be compared: no dict, texts plain, not deep -/
def eqOk (n : Nat) : D → Bool
  | .lst ds => match n with | 0 => false | n + 1 => eqOks n ds
  | .tup ds => match n with | 0 => false | n + 1 => eqOks n ds
  | .dic _ => false
  | .str x => PyData.strOk x
  | _ => true
def eqOks (n : Nat) : List D → Bool
  | [] => true
  | d :: ds => eqOk n d && eqOks n ds
end
mutual
theorem eqOk_flat : ∀ (d : D) (n : Nat), eqOk n d = true → flatD d = true ∧ (pyD d).canLay0 = true ∧ (pyD d).depth ≤ n
  | .non, _, _ => ⟨rfl, rfl, Nat.zero_le _⟩
  | .bl _, _, _ => ⟨rfl, rfl, Nat.zero_le _⟩
  | .int _, _, _ => ⟨rfl, rfl, Nat.zero_le _⟩
  | .str _, _, h => ⟨rfl, h, Nat.zero_le _⟩
  | .lst ds, n + 1, h => let ⟨a, b, c⟩ := eqOks_flat ds n h; ⟨a, b, Nat.succ_le_succ c⟩
  | .tup ds, n + 1, h => let ⟨a, b, c⟩ := eqOks_flat ds n h; ⟨a, b, Nat.succ_le_succ c⟩
  | .lst _, 0, h => nomatch h
  | .tup _, 0, h => nomatch h
  | .dic _, _, h => nomatch h
theorem eqOks_flat : ∀ (ds : List D) (n : Nat), eqOks n ds = true → flatDs ds = true ∧ PyData.canLayAll0 (pyDs ds) = true ∧ PyData.depthAll (pyDs ds) ≤ n
  | [], _, _ => ⟨rfl, rfl, Nat.zero_le _⟩
  | d :: ds, n, h => by
    have h' : (eqOk n d && eqOks n ds) = true := h
    rw [Bool.and_eq_true] at h'
    obtain ⟨a, b, c⟩ := eqOk_flat d n h'.1
    obtain ⟨a', b', c'⟩ := eqOks_flat ds n h'.2
    refine ⟨?_, ?_, ?_⟩
    · show (flatD d && flatDs ds) = true; rw [a, a']; rfl
    · show (PyData.canLay0 (pyD d) && PyData.canLayAll0 (pyDs ds)) = true; rw [b, b']; rfl
    · exact Nat.max_le.mpr ⟨c, c'⟩
end
theorem okEq_of {d e : D} (h : eqOk 20 d = true) (h' : eqOk 20 e = true) : okEq d e := by
  obtain ⟨a, b, c⟩ := eqOk_flat d 20 h
  obtain ⟨a', b', c'⟩ := eqOk_flat e 20 h'
  refine ⟨a, a', ?_, ?_⟩
  · unfold SeqAt.shaped; rw [b, decide_eq_true (Nat.le_trans c (by decide))]; rfl
  · unfold SeqAt.shaped; rw [b', decide_eq_true (Nat.le_trans c' (by decide))]; rfl
theorem eqOk_ints : ∀ (l : List Int) (n : Nat), eqOks n (l.map enc) = true
  | [], _ => rfl
  | i :: l, n => by show (eqOk n (.int i) && eqOks n (l.map enc)) = true; rw [eqOk_ints l n]; rfl
/-- a comprehension without a state whose turns give values -/
theorem compL_map {α β : Type} {f : α → Unit → Res (Option β × Unit)} {g : α → β} : ∀ {l : List α}, (∀ x ∈ l, f x () = .ok (some (g x), ())) → compL l () f = .ok (l.map g, ())
  | [], _ => rfl
  | x :: xs, h => by
    unfold compL
    rw [h x List.mem_cons_self]
    show ((compL xs () f).bind fun q => .ok (g x :: q.1, q.2)) = _
    rw [compL_map fun y m => h y (List.mem_cons_of_mem _ m)]
    rfl
theorem compR_map {α β : Type} {f : α → Unit → Res (Option β × Unit)} {g : α → β} {l : List α} (hl : l.length ≤ 1000000) (h : ∀ x ∈ l, f x () = .ok (some (g x), ())) : compR l () f = .ok (l.map g, ()) := by
  unfold compR guardR
  rw [if_pos hl, compL_map h]
def smallD (d : D) : Prop := match d with | .lst ds => ds.length ≤ 1000000 | _ => True
end Y

set_option Elab.async false
set_option linter.all false
set_option maxRecDepth 100000
set_option maxHeartbeats 2000000
namespace A
open PySem PySem.Spec PyProof.Rows L2 Y
open Y.Enc (enc)
/-- a state of draws -/
def Gd (st : List Int) : Prop := st.length = 1 ∨ st.length = 3
theorem setR_in {α : Type} {l : List α} {i : Int} {x : α} (h0 : 0 ≤ i) (h1 : i < (l.length : Int)) : setR l i x = .ok (l.set i.toNat x) := by
  unfold setR
  have e : ixN l.length i = some i.toNat := by unfold ixN; rw [if_pos h0, if_pos h1]
  rw [e]
theorem Ok.set {α β : Type} {l : List α} {i : Int} {x : α} {k : List α → Res β} {ψ : β → Prop} (h0 : 0 ≤ i) (h1 : i < (l.length : Int)) (h : ∀ l', l'.length = l.length → Ok (k l') ψ) : Ok ((setR l i x).bind k) ψ := by
  rw [setR_in h0 h1]
  exact h _ (List.length_set ..)
theorem digit_ok {st : List Int} {b : Int} (h : Gd st) (hb : 0 < b) (hb2 : b.natAbs < 2 ^ 4000) : Ok (l_digit st b) fun r => (0 ≤ r.1 ∧ r.1 < b) ∧ r.2.length = 3 := by
  unfold l_digit
  refine Ok.bind (φ := fun l => l.length = 3) (Ok.ite (fun c => ?_) (fun c => ?_)) fun l hl => ?_
  · have e : st.length = 1 := by have := of_decide_eq_true c; omega
    refine Ok.ix (by decide) (by omega) fun x _ _ => Ok.guard (by simp [e]) (Ok.pure (by simp [e]))
  · have e : ¬ (st.length : Int) = 1 := of_decide_eq_false c
    refine Ok.pure ?_
    rcases h with h | h
    · exact absurd (by omega) e
    · exact h
  refine Ok.ix (by decide) (by omega) fun x _ _ => Ok.ite (fun c => ?_) (fun c => ?_)
  · refine Ok.ix (by decide) (by omega) fun y _ _ => Ok.guard hb (Ok.lt (Ok.ix (by decide) (by omega) fun z _ _ => Ok.guard (divW hb hb2) (Ok.set (by decide) (by omega) fun l' e => Ok.pure ⟨⟨Int.emod_nonneg _ (Int.ne_of_gt hb), Int.emod_lt_of_pos _ hb⟩, e.trans hl⟩)))
  · refine Ok.ix (by decide) (by omega) fun y _ _ => Ok.set (by decide) (by omega) fun l' e => Ok.ix (by decide) (by omega) fun z _ _ => Ok.ix (by decide) (by omega) fun u _ _ => Ok.lt ?_
    generalize hn : (((z + 7919 * u) + 1) * 48271) % 2147483647 = n
    have hn1 : 0 ≤ n ∧ n < 2147483647 := by subst hn; exact ⟨Int.emod_nonneg _ (by decide), Int.emod_lt_of_pos _ (by decide)⟩
    refine Ok.guard (mulW (a := 32) (b := 32) (by omega) (by omega)) (Ok.lt ?_)
    generalize hm : (n * (n / 1009 + 69621)) % 2147483647 = m
    have hm1 : 0 ≤ m ∧ m < 2147483647 := by subst hm; exact ⟨Int.emod_nonneg _ (by decide), Int.emod_lt_of_pos _ (by decide)⟩
    refine Ok.guard (mulW (a := 32) (b := 32) (by omega) (by omega)) (Ok.guard hb (Ok.pure ⟨⟨Int.emod_nonneg _ (Int.ne_of_gt hb), Int.emod_lt_of_pos _ hb⟩, e.trans hl⟩))
theorem gd3 {st : List Int} (h : st.length = 3) : Gd st := .inr h
/-- a draw -/
theorem dg {β : Type} {st : List Int} {b : Int} {k : Int × List Int → Res β} {ψ : β → Prop} (h : Gd st) (hb : 0 < b) (hb2 : b.natAbs < 2 ^ 4000) (hk : ∀ x s, 0 ≤ x → x < b → s.length = 3 → Ok (k (x, s)) ψ) : Ok ((l_digit st b).bind k) ψ :=
  Ok.bind (digit_ok h hb hb2) fun r p => hk r.1 r.2 p.1.1 p.1.2 p.2
theorem big {b : Int} {n : Nat} (h : b.natAbs < 2 ^ n) (hn : n ≤ 4000) : b.natAbs < 2 ^ 4000 := Nat.lt_of_lt_of_le h (Nat.pow_le_pow_right (by decide) hn)
theorem bg {b : Int} (h : b.natAbs < 18446744073709551616) : b.natAbs < 2 ^ 4000 := big (n := 64) h (by decide)
end A

set_option Elab.async false
set_option linter.all false
set_option maxRecDepth 100000
set_option maxHeartbeats 2000000
namespace A
open PySem PySem.Spec PyProof.Rows L2 Y
open Y.Enc (enc)
theorem abs_eq (i : Int) : absI i = (i.natAbs : Int) := by unfold absI; split <;> omega
def euF {R : Type} : Int × Int → Res (Fl (Int × Int) R) := fun a12 => (if (decide (0 < a12.2)) = true then guardR (0 < a12.2) <| lt ((a12.1 % a12.2) : Int) fun x16 => (.ok (.nx (a12.2, x16)) : Res (Fl (Int × Int) R)) else .ok (.bk (a12.1, a12.2)))
theorem euclid {R : Type} (n : Nat) : ∀ a b : Nat, b < n → whileR n ((a : Int), (b : Int)) (euF (R := R)) = .ok (.bk (((Nat.gcd a b : Nat) : Int), 0)) := by
  induction n with
  | zero => intro a b h; omega
  | succ n ih =>
    intro a b h
    unfold whileR
    by_cases hb : 0 < (b : Int)
    · have e1 : euF (R := R) ((a : Int), (b : Int)) = .ok (.nx ((b : Int), (a : Int) % (b : Int))) := by
        unfold euF
        rw [if_pos (decide_eq_true hb)]
        unfold guardR
        rw [if_pos hb]
        rfl
      rw [e1]
      show whileR n ((b : Int), (a : Int) % (b : Int)) _ = _
      have e : (a : Int) % (b : Int) = ((a % b : Nat) : Int) := (Int.natCast_emod a b).symm
      rw [e, ih b (a % b) (by have := Nat.mod_lt a (show b > 0 by omega); omega)]
      rw [Nat.gcd_comm a b, Nat.gcd_rec b a, Nat.gcd_comm]
    · have : b = 0 := by omega
      subst this
      simp [euF]
      rfl
theorem div_ok (a b : Int) : m_divisor a b = .ok (Int.gcd a b : Int) := by
  have e0 : m_divisor a b = (whileR ((absI b).natAbs + 1) (absI a, absI b) euF).bind (afterR fun a17 => .ok a17.1) := rfl
  rw [e0, abs_eq, abs_eq, Int.natAbs_natCast, euclid (b.natAbs + 1) a.natAbs b.natAbs (by omega)]
  rfl
theorem frac_facts {a b : Int} (hb : b ≠ 0) : ∃ s : Int, (if b < 0 then -(Int.gcd a b : Int) else (Int.gcd a b : Int)) = s ∧ s ≠ 0 ∧ s.natAbs ≤ b.natAbs ∧ Int.fdiv a s * s = a ∧ Int.fdiv b s * s = b ∧ 0 < Int.fdiv b s ∧ Int.gcd (Int.fdiv a s) (Int.fdiv b s) = 1 := by
  have hg : 0 < Int.gcd a b := Int.gcd_pos_of_ne_zero_right a hb
  have ha' : ((Int.gcd a b : Nat) : Int) ∣ a := Int.gcd_dvd_left ..
  have hb' : ((Int.gcd a b : Nat) : Int) ∣ b := Int.gcd_dvd_right ..
  generalize hG : Int.gcd a b = g at *
  refine ⟨_, rfl, ?_⟩
  obtain ⟨p, ep⟩ := ha'
  obtain ⟨q, eq⟩ := hb'
  have hgn : (g : Int) ≠ 0 := by omega
  have hpq : Int.gcd p q = 1 := by
    have e : Int.gcd ((g : Int) * p) ((g : Int) * q) = g := by rw [← ep, ← eq]; exact hG
    rw [Int.gcd_mul_left] at e
    have e2 : g * Int.gcd p q = g * 1 := by simpa using e
    exact Nat.eq_of_mul_eq_mul_left hg e2
  have hle : g ≤ b.natAbs := by
    rw [eq, Int.natAbs_mul]
    have : 0 < q.natAbs := Int.natAbs_pos.mpr (by rintro rfl; exact hb (by rw [eq]; simp))
    simpa using Nat.le_mul_of_pos_right g this
  by_cases hn : b < 0
  · rw [if_pos hn]
    have e1 : a = -p * -(g : Int) := by rw [ep, Int.neg_mul_neg, Int.mul_comm]
    have e2 : b = -q * -(g : Int) := by rw [eq, Int.neg_mul_neg, Int.mul_comm]
    have d1 : Int.fdiv a (-(g : Int)) = -p := by rw [e1]; exact Int.mul_fdiv_cancel _ (by omega)
    have d2 : Int.fdiv b (-(g : Int)) = -q := by rw [e2]; exact Int.mul_fdiv_cancel _ (by omega)
    rw [d1, d2]
    refine ⟨by omega, by omega, e1.symm, e2.symm, ?_, by simpa using hpq⟩
    rcases Int.lt_or_le q 0 with h | h
    · omega
    · have := Int.mul_nonneg (show (0 : Int) ≤ g by omega) h
      rw [← eq] at this
      exact absurd hn (by omega)
  · rw [if_neg hn]
    have e1 : a = p * (g : Int) := by rw [ep, Int.mul_comm]
    have e2 : b = q * (g : Int) := by rw [eq, Int.mul_comm]
    have d1 : Int.fdiv a (g : Int) = p := by rw [e1]; exact Int.mul_fdiv_cancel _ hgn
    have d2 : Int.fdiv b (g : Int) = q := by rw [e2]; exact Int.mul_fdiv_cancel _ hgn
    rw [d1, d2]
    refine ⟨hgn, by omega, e1.symm, e2.symm, ?_, hpq⟩
    rcases Int.lt_or_le 0 q with h | h
    · exact h
    · have := Int.mul_nonneg (show (0 : Int) ≤ g by omega) (show 0 ≤ -q by omega)
      rw [Int.mul_neg, ← eq] at this
      exact absurd hn (by omega)
/-- the fraction of a by b, in lowest terms -/
def FracOf (a b : Int) (f : Tp2 Int Int) : Prop := 0 < f.b ∧ Int.gcd f.a f.b = 1 ∧ f.a * b = a * f.b ∧ f.a.natAbs ≤ a.natAbs ∧ f.b.natAbs ≤ b.natAbs
theorem natAbs_le_of_mul {x s a : Int} (h : x * s = a) (hs : s ≠ 0) : x.natAbs ≤ a.natAbs := by
  rw [← h, Int.natAbs_mul]
  exact Nat.le_mul_of_pos_right _ (by omega)
/-- what both places are shared by -/
def shr (a b : Int) : Int := if b < 0 then -(Int.gcd a b : Int) else (Int.gcd a b : Int)
def lowT (a b : Int) : Tp2 Int Int := ⟨Int.fdiv a (shr a b), Int.fdiv b (shr a b)⟩
theorem shr_small {a b : Int} (hb : b ≠ 0) : shr a b ≠ 0 ∧ (shr a b).natAbs ≤ b.natAbs := by
  obtain ⟨s, e, h0, h1, _⟩ := frac_facts (a := a) hb
  unfold shr
  rw [e]
  exact ⟨h0, h1⟩
theorem lowT_of {a b : Int} (hb : b ≠ 0) : FracOf a b (lowT a b) := by
  obtain ⟨s, e, h0, h1, h2, h3, h4, h5⟩ := frac_facts (a := a) hb
  have es : shr a b = s := e
  unfold lowT
  rw [es]
  refine ⟨h4, h5, ?_, natAbs_le_of_mul h2 h0, natAbs_le_of_mul h3 h0⟩
  show Int.fdiv a s * b = a * Int.fdiv b s
  conv => lhs; rw [← h3]
  conv => rhs; rw [← h2]
  simp only [Int.mul_comm, Int.mul_left_comm, Int.mul_assoc]
theorem shr_log {a b : Int} {n : Nat} (hb : b ≠ 0) (hs : b.natAbs < 2 ^ n) (h0 : 0 < n) (h9 : n ≤ 9000) : (shr a b).natAbs.log2 < 9000 := Nat.lt_of_lt_of_le (log2_small (b := n) (Nat.lt_of_le_of_lt (shr_small hb).2 hs) h0) h9
theorem shr_bind {β : Type} {a b : Int} {k : Int → Res β} : ((if (decide (b < 0)) = true then lt ((-(Int.gcd a b : Int)) : Int) fun x28 => .ok x28 else .ok (Int.gcd a b : Int)) : Res (Int)).bind k = k (shr a b) := by
  unfold shr
  by_cases hn : b < 0
  · rw [if_pos (decide_eq_true hn), if_pos hn]; rfl
  · rw [if_neg (by simpa using hn), if_neg hn]; rfl
theorem fraction_eq {a b : Int} {n : Nat} (hb : b ≠ 0) (hs : b.natAbs < 2 ^ n) (h0 : 0 < n := by decide) (h9 : n ≤ 9000 := by decide) : m_fraction (.int a) (.int b) = .ok (lowT a b) := by
  have r : m_fraction (.int a) (.int b) = guardR (okEq (.int b) (enc (0 : Int))) (if (eqD (.int b) (enc (0 : Int))) = true then .err ⟨"NoFraction", []⟩ else ((m_divisor a b).noErr).bind fun x19 => ((if (decide (b < 0)) = true then lt ((-x19) : Int) fun x28 => .ok x28 else .ok x19) : Res (Int)).bind fun a29 => guardR (CDivZ a a29) <| guardR (CDivZ b a29) <| .ok (⟨(Int.fdiv a a29), (Int.fdiv b a29)⟩ : (Tp2 Int Int))) := rfl
  rw [r]
  unfold guardR
  rw [if_pos (okEq_of rfl rfl), if_neg (show ¬ (eqD (.int b) (enc (0 : Int)) = true) from fun h => hb (of_decide_eq_true h)), div_ok]
  show (((if (decide (b < 0)) = true then lt ((-(Int.gcd a b : Int)) : Int) fun x28 => .ok x28 else .ok (Int.gcd a b : Int)) : Res (Int)).bind _) = _
  rw [shr_bind, if_pos ⟨(shr_small hb).1, shr_log hb hs h0 h9⟩, if_pos ⟨(shr_small hb).1, shr_log hb hs h0 h9⟩]
  rfl
theorem dvd_of_cop {q p r : Int} (h : q ∣ p * r) (hg : Int.gcd p q = 1) : q ∣ r := by
  have h1 : q.natAbs ∣ p.natAbs * r.natAbs := by rw [← Int.natAbs_mul]; exact Int.natAbs_dvd_natAbs.mpr h
  have h2 : Nat.Coprime q.natAbs p.natAbs := (Nat.gcd_comm ..).trans hg
  exact Int.natAbs_dvd_natAbs.mp (Nat.Coprime.dvd_of_dvd_mul_left h2 h1)
theorem uniq {p q p' q' : Int} (h : p * q' = p' * q) (hg : Int.gcd p q = 1) (hg' : Int.gcd p' q' = 1) (hq : 0 < q) (hq' : 0 < q') : p = p' ∧ q = q' := by
  have d1 : q ∣ q' := dvd_of_cop ⟨p', by rw [h, Int.mul_comm]⟩ hg
  have d2 : q' ∣ q := dvd_of_cop ⟨p, by rw [← h, Int.mul_comm]⟩ hg'
  have e : q = q' := Int.dvd_antisymm (by omega) (by omega) d1 d2
  subst e
  exact ⟨Int.eq_of_mul_eq_mul_right (by omega) h, rfl⟩
/-- in lowest terms -/
def Low (f : Tp2 Int Int) : Prop := 0 < f.b ∧ Int.gcd f.a f.b = 1
theorem low_eq {f : Tp2 Int Int} {a b : Int} (hf : Low f) (hb : b ≠ 0) (h : f.a * b = a * f.b) : lowT a b = f := by
  obtain ⟨h1, h2, h3, _, _⟩ := lowT_of (a := a) hb
  generalize lowT a b = g at *
  obtain ⟨p, q⟩ := g
  obtain ⟨u, v⟩ := f
  obtain ⟨hv, hg⟩ := hf
  simp only at *
  have e : p * v = u * q := by
    apply Int.eq_of_mul_eq_mul_right hb
    grind
  obtain ⟨rfl, rfl⟩ := uniq e h2 hg h1 hv
  rfl
end A

set_option Elab.async false
set_option linter.all false
set_option maxRecDepth 100000
set_option maxHeartbeats 2000000
namespace A
open PySem PySem.Spec PyProof.Rows L2 Y
open Y.Enc (enc)
abbrev Fr := Tp2 Int Int
theorem m2 {x y : Int} {m n : Nat} (h : x.natAbs < 2 ^ m) (h' : y.natAbs < 2 ^ n) : (x * y).natAbs < 2 ^ (m + n) := L2.wide_lt h h'
theorem up {x : Int} {m n : Nat} (h : x.natAbs < 2 ^ m) (hm : m ≤ n) : x.natAbs < 2 ^ n := Nat.lt_of_lt_of_le h (Nat.pow_le_pow_right (by decide) hm)
theorem cw {x y : Int} {m n : Nat} (h : x.natAbs < 2 ^ m) (h' : y.natAbs < 2 ^ n) (h0 : 0 < m := by decide) (h1 : 0 < n := by decide) (h2 : m + n ≤ 1000000 := by decide) : CMulW x y := mulW h h' h0 h1 h2
theorem noErr_ok {α : Type} {m : Res α} {a : α} (h : m = .ok a) : m.noErr = .ok a := by rw [h]; rfl
def B6 (i : Int) : Prop := i.natAbs < 2 ^ 650
/-- f is n over d in lowest terms -/
def Rel (f : Fr) (n d : Int) : Prop := Low f ∧ 0 < d ∧ f.a * d = n * f.b
theorem Rel.eq {f : Fr} {n d : Int} (h : Rel f n d) : f = lowT n d := (low_eq h.1 (by have := h.2.1; omega) h.2.2).symm
theorem Rel.of {n d : Int} (h : 0 < d) : Rel (lowT n d) n d :=
  have q := lowT_of (a := n) (b := d) (by omega)
  ⟨⟨q.1, q.2.1⟩, h, q.2.2.1⟩
theorem Rel.b6 {f : Fr} {n d : Int} (h : Rel f n d) (hn : B6 n) (hd : B6 d) : B6 f.a ∧ B6 f.b := by
  have q := lowT_of (a := n) (b := d) (by have := h.2.1; omega)
  rw [← h.eq] at q
  exact ⟨Nat.lt_of_le_of_lt q.2.2.2.1 hn, Nat.lt_of_le_of_lt q.2.2.2.2 hd⟩
theorem Rel.self {f : Fr} (h : Low f) : Rel f f.a f.b := ⟨h, h.1, rfl⟩
theorem Rel.cast {f : Fr} {n d n' d' : Int} (h : Rel f n d) (hd : 0 < d') (e : n * d' = n' * d) : Rel f n' d' := by
  obtain ⟨h1, h2, h3⟩ := h
  refine ⟨h1, hd, Int.eq_of_mul_eq_mul_right (show d ≠ 0 by omega) ?_⟩
  grind
theorem frac_eq {a b : Int} (h : 0 < b) (hs : b.natAbs < 2 ^ 1300) : m_fraction (enc (a : Int)) (enc (b : Int)) = .ok (lowT a b) := fraction_eq (by omega) hs
section
variable {f x : Fr} {n d n' d' : Int}
theorem plusR (hf : Rel f n d) (hx : Rel x n' d') (h1 : B6 n) (h2 : B6 d) (h3 : B6 n') (h4 : B6 d') : ∃ g, m_plus f x = .ok g ∧ Rel g (n * d' + n' * d) (d * d') := by
  obtain ⟨f1, f2⟩ := hf.b6 h1 h2
  obtain ⟨x1, x2⟩ := hx.b6 h3 h4
  have p : 0 < f.b * x.b := Int.mul_pos hf.1.1 hx.1.1
  refine ⟨lowT (f.a * x.b + x.a * f.b) (f.b * x.b), ?_, (Rel.of p).cast (Int.mul_pos hf.2.1 hx.2.1) ?_⟩
  · unfold m_plus guardR
    rw [if_pos (cw f1 x2), if_pos (cw x1 f2), if_pos (cw f2 x2), frac_eq p (m2 f2 x2)]
    rfl
  · have e1 := hf.2.2
    have e2 := hx.2.2
    grind
theorem minusR (hf : Rel f n d) (hx : Rel x n' d') (h1 : B6 n) (h2 : B6 d) (h3 : B6 n') (h4 : B6 d') : ∃ g, m_minus f x = .ok g ∧ Rel g (n * d' - n' * d) (d * d') := by
  obtain ⟨f1, f2⟩ := hf.b6 h1 h2
  obtain ⟨x1, x2⟩ := hx.b6 h3 h4
  have p : 0 < f.b * x.b := Int.mul_pos hf.1.1 hx.1.1
  refine ⟨lowT (f.a * x.b - x.a * f.b) (f.b * x.b), ?_, (Rel.of p).cast (Int.mul_pos hf.2.1 hx.2.1) ?_⟩
  · unfold m_minus guardR
    rw [if_pos (cw f1 x2), if_pos (cw x1 f2), if_pos (cw f2 x2), frac_eq p (m2 f2 x2)]
    rfl
  · have e1 := hf.2.2
    have e2 := hx.2.2
    grind
theorem timesR (hf : Rel f n d) (hx : Rel x n' d') (h1 : B6 n) (h2 : B6 d) (h3 : B6 n') (h4 : B6 d') : ∃ g, m_times f x = .ok g ∧ Rel g (n * n') (d * d') := by
  obtain ⟨f1, f2⟩ := hf.b6 h1 h2
  obtain ⟨x1, x2⟩ := hx.b6 h3 h4
  have p : 0 < f.b * x.b := Int.mul_pos hf.1.1 hx.1.1
  refine ⟨lowT (f.a * x.a) (f.b * x.b), ?_, (Rel.of p).cast (Int.mul_pos hf.2.1 hx.2.1) ?_⟩
  · unfold m_times guardR
    rw [if_pos (cw f1 x1), if_pos (cw f2 x2), frac_eq p (m2 f2 x2)]
    rfl
  · have e1 := hf.2.2
    have e2 := hx.2.2
    grind
end
/-- numerator, denominator of a sum; numerator of a product -/
def Dd : List Fr → Int | [] => 1 | x :: l => x.b * Dd l
def Nn : List Fr → Int | [] => 0 | x :: l => x.a * Dd l + Nn l * x.b
def Pn : List Fr → Int | [] => 1 | x :: l => x.a * Pn l
theorem Dd_perm {l l' : List Fr} (h : l.Perm l') : Dd l = Dd l' := by
  induction h with
  | nil => rfl
  | cons x _ ih => show x.b * _ = x.b * _; rw [ih]
  | swap x y l => show y.b * (x.b * Dd l) = x.b * (y.b * Dd l); grind
  | trans _ _ a b => exact a.trans b
theorem Nn_perm {l l' : List Fr} (h : l.Perm l') : Nn l = Nn l' := by
  induction h with
  | nil => rfl
  | cons x p ih => show x.a * _ + _ * x.b = x.a * _ + _ * x.b; rw [ih, Dd_perm p]
  | swap x y l => show y.a * (x.b * Dd l) + (x.a * Dd l + Nn l * x.b) * y.b = x.a * (y.b * Dd l) + (y.a * Dd l + Nn l * y.b) * x.b; grind
  | trans _ _ a b => exact a.trans b
theorem Pn_perm {l l' : List Fr} (h : l.Perm l') : Pn l = Pn l' := by
  induction h with
  | nil => rfl
  | cons x _ ih => show x.a * _ = x.a * _; rw [ih]
  | swap x y l => show y.a * (x.a * Pn l) = x.a * (y.a * Pn l); grind
  | trans _ _ a b => exact a.trans b
theorem Dd_app (l l' : List Fr) : Dd (l ++ l') = Dd l * Dd l' := by
  induction l with
  | nil => show Dd l' = 1 * Dd l'; rw [Int.one_mul]
  | cons x l ih => show x.b * Dd (l ++ l') = x.b * Dd l * Dd l'; rw [ih, Int.mul_assoc]
theorem Pn_app (l l' : List Fr) : Pn (l ++ l') = Pn l * Pn l' := by
  induction l with
  | nil => show Pn l' = 1 * Pn l'; rw [Int.one_mul]
  | cons x l ih => show x.a * Pn (l ++ l') = x.a * Pn l * Pn l'; rw [ih, Int.mul_assoc]
theorem Nn_app (l l' : List Fr) : Nn (l ++ l') = Nn l * Dd l' + Nn l' * Dd l := by
  induction l with
  | nil => show Nn l' = 0 * Dd l' + Nn l' * 1; omega
  | cons x l ih => show x.a * Dd (l ++ l') + Nn (l ++ l') * x.b = (x.a * Dd l + Nn l * x.b) * Dd l' + Nn l' * (x.b * Dd l); rw [ih, Dd_app]; grind
/-- small lowest fractions -/
def G40 (x : Fr) : Prop := Low x ∧ x.a.natAbs < 2 ^ 42 ∧ x.b.natAbs < 2 ^ 42
def S42 (x : Fr) : Prop := 0 < x.b ∧ x.a.natAbs < 2 ^ 42 ∧ x.b.natAbs < 2 ^ 42
theorem G40.s {x : Fr} (h : G40 x) : S42 x := ⟨h.1.1, h.2⟩
def Bn (k : Nat) (n : Int) : Prop := n.natAbs ≤ 2 ^ (43 * k)
theorem Bn.b6 {k : Nat} {n : Int} (h : Bn k n) (hk : k ≤ 15) : B6 n := Nat.lt_of_le_of_lt h (Nat.pow_lt_pow_right (by decide) (by omega))
theorem Bn.mul {k : Nat} {n x : Int} (h : Bn k n) (hx : x.natAbs < 2 ^ 42) : Bn (k + 1) (n * x) := by
  unfold Bn at *
  rw [Int.natAbs_mul, show 43 * (k + 1) = 43 * k + 43 from by omega, Nat.pow_add]
  exact Nat.mul_le_mul h (by omega)
theorem Bn.sum {k : Nat} {n d x y : Int} (h : Bn k n) (h' : Bn k d) (hx : x.natAbs < 2 ^ 42) (hy : y.natAbs < 2 ^ 42) : Bn (k + 1) (n * y + x * d) := by
  unfold Bn at *
  rw [show 43 * (k + 1) = 43 * k + 43 from by omega, Nat.pow_add]
  have e1 : (n * y).natAbs ≤ 2 ^ (43 * k) * 2 ^ 42 := by rw [Int.natAbs_mul]; exact Nat.mul_le_mul h (by omega)
  have e2 : (x * d).natAbs ≤ 2 ^ (43 * k) * 2 ^ 42 := by rw [Int.natAbs_mul, Nat.mul_comm]; exact Nat.mul_le_mul h' (by omega)
  generalize 2 ^ (43 * k) = z at *
  have e3 : (n * y + x * d).natAbs ≤ (n * y).natAbs + (x * d).natAbs := Int.natAbs_add_le _ _
  omega
theorem Dd_bn : ∀ (l : List Fr), (∀ x ∈ l, S42 x) → Bn l.length (Dd l) ∧ 0 < Dd l
  | [], _ => ⟨by show (1 : Nat) ≤ 1; decide, by decide⟩
  | x :: l, h => by
    obtain ⟨a, b⟩ := Dd_bn l fun y m => h y (List.mem_cons_of_mem _ m)
    have g := h x List.mem_cons_self
    refine ⟨?_, Int.mul_pos g.1 b⟩
    show Bn (l.length + 1) (x.b * Dd l)
    rw [Int.mul_comm]
    exact a.mul g.2.2
theorem Nn_bn : ∀ (l : List Fr), (∀ x ∈ l, S42 x) → Bn l.length (Nn l)
  | [], _ => by show (0 : Nat) ≤ 1; decide
  | x :: l, h => by
    have a := Nn_bn l fun y m => h y (List.mem_cons_of_mem _ m)
    have b := (Dd_bn l fun y m => h y (List.mem_cons_of_mem _ m)).1
    have g := h x List.mem_cons_self
    show Bn (l.length + 1) (x.a * Dd l + Nn l * x.b)
    rw [Int.add_comm]
    exact a.sum b g.2.1 g.2.2
theorem Pn_bn : ∀ (l : List Fr), (∀ x ∈ l, S42 x) → Bn l.length (Pn l)
  | [], _ => by show (1 : Nat) ≤ 1; decide
  | x :: l, h => by
    have a := Pn_bn l fun y m => h y (List.mem_cons_of_mem _ m)
    have g := h x List.mem_cons_self
    show Bn (l.length + 1) (x.a * Pn l)
    rw [Int.mul_comm]
    exact a.mul g.2.1
theorem sum_loop : ∀ (l : List Fr) (f : Fr) (n d : Int) (k : Nat), Rel f n d → Bn k n → Bn k d → k + l.length ≤ 14 → (∀ x ∈ l, G40 x) →
    ∃ g, forR l f (fun x18 (a17 : Fr) => ((m_plus a17 x18).noErr).bind fun x27 => (.ok (.nx x27) : Res (Fl Fr Fr))) = .ok (.nx g) ∧ Rel g (n * Dd l + Nn l * d) (d * Dd l)
  | [], f, n, d, k, h, _, _, _, _ => ⟨f, rfl, by show Rel f (n * 1 + 0 * d) (d * 1); rw [Int.mul_one, Int.mul_one, Int.zero_mul, Int.add_zero]; exact h⟩
  | x :: l, f, n, d, k, h, hn, hd, hk, hl => by
    have g := hl x List.mem_cons_self
    have hk' : k + (l.length + 1) ≤ 14 := hk
    obtain ⟨f2, e, r⟩ := plusR h (Rel.self g.1) (hn.b6 (by omega)) (hd.b6 (by omega)) (up g.2.1 (by decide)) (up g.2.2 (by decide))
    obtain ⟨g2, e2, r2⟩ := sum_loop l f2 _ _ (k + 1) r (hn.sum hd g.2.1 g.2.2) (hd.mul g.2.2) (by omega) fun y m => hl y (List.mem_cons_of_mem _ m)
    refine ⟨g2, ?_, ?_⟩
    · unfold forR
      show ((((m_plus f x).noErr).bind fun x27 => (.ok (.nx x27) : Res (Fl Fr Fr))).bind _) = _
      rw [e]
      exact e2
    · show Rel g2 (n * (x.b * Dd l) + (x.a * Dd l + Nn l * x.b) * d) (d * (x.b * Dd l))
      have e3 : n * (x.b * Dd l) + (x.a * Dd l + Nn l * x.b) * d = (n * x.b + x.a * d) * Dd l + Nn l * (d * x.b) := by grind
      have e4 : d * (x.b * Dd l) = d * x.b * Dd l := by rw [Int.mul_assoc]
      rw [e3, e4]
      exact r2
theorem low01 : Low (⟨0, 1⟩ : Fr) := ⟨by decide, by decide⟩
theorem low11 : Low (⟨1, 1⟩ : Fr) := ⟨by decide, by decide⟩
theorem sum_ok {l : List Fr} (h : l.length ≤ 13) (hl : ∀ x ∈ l, G40 x) : ∃ g, l_sum l = .ok g ∧ Rel g (Nn l) (Dd l) := by
  obtain ⟨g, e, r⟩ := sum_loop l ⟨0, 1⟩ 0 1 0 (Rel.self low01) (by show (0 : Nat) ≤ 1; decide) (by show (1 : Nat) ≤ 1; decide) (by omega) hl
  refine ⟨g, ?_, ?_⟩
  · unfold l_sum
    rw [e]
    rfl
  · rw [Int.zero_mul, Int.zero_add, Int.mul_one, Int.one_mul] at r
    exact r
theorem prod_loop : ∀ (l : List Fr) (f : Fr) (n d : Int) (k : Nat), Rel f n d → Bn k n → Bn k d → k + l.length ≤ 14 → (∀ x ∈ l, G40 x) →
    ∃ g, forR l f (fun x18 (a17 : Fr) => ((m_times a17 x18).noErr).bind fun x27 => (.ok (.nx x27) : Res (Fl Fr Fr))) = .ok (.nx g) ∧ Rel g (n * Pn l) (d * Dd l)
  | [], f, n, d, k, h, _, _, _, _ => ⟨f, rfl, by show Rel f (n * 1) (d * 1); rw [Int.mul_one, Int.mul_one]; exact h⟩
  | x :: l, f, n, d, k, h, hn, hd, hk, hl => by
    have g := hl x List.mem_cons_self
    have hk' : k + (l.length + 1) ≤ 14 := hk
    obtain ⟨f2, e, r⟩ := timesR h (Rel.self g.1) (hn.b6 (by omega)) (hd.b6 (by omega)) (up g.2.1 (by decide)) (up g.2.2 (by decide))
    obtain ⟨g2, e2, r2⟩ := prod_loop l f2 _ _ (k + 1) r (hn.mul g.2.1) (hd.mul g.2.2) (by omega) fun y m => hl y (List.mem_cons_of_mem _ m)
    refine ⟨g2, ?_, ?_⟩
    · unfold forR
      show ((((m_times f x).noErr).bind fun x27 => (.ok (.nx x27) : Res (Fl Fr Fr))).bind _) = _
      rw [e]
      exact e2
    · show Rel g2 (n * (x.a * Pn l)) (d * (x.b * Dd l))
      rw [← Int.mul_assoc, ← Int.mul_assoc]
      exact r2
theorem prod_ok {l : List Fr} (h : l.length ≤ 13) (hl : ∀ x ∈ l, G40 x) : ∃ g, l_product l = .ok g ∧ Rel g (Pn l) (Dd l) := by
  obtain ⟨g, e, r⟩ := prod_loop l ⟨1, 1⟩ 1 1 0 (Rel.self low11) (by show (1 : Nat) ≤ 1; decide) (by show (1 : Nat) ≤ 1; decide) (by omega) hl
  refine ⟨g, ?_, ?_⟩
  · unfold l_product
    rw [e]
    rfl
  · rw [Int.one_mul, Int.one_mul] at r
    exact r
theorem lowest_eq {a b : Int} (h : 0 < b) (hs : b.natAbs < 2 ^ 650) : l_lowest a b = .ok (lowT a b) := by
  have e0 : l_lowest a b = (whileR (b.natAbs + 1) (absI a, b) euF).bind (afterR fun a16 => guardR (CDivW a a16.1) <| guardR (CDivW b a16.1) <| .ok (⟨(a / a16.1), (b / a16.1)⟩ : Fr)) := rfl
  have eb : b = ((b.natAbs : Nat) : Int) := by omega
  have e1 : whileR (b.natAbs + 1) (absI a, b) (euF (R := Fr)) = .ok (.bk (((Nat.gcd a.natAbs b.natAbs : Nat) : Int), 0)) := by
    have e := euclid (R := Fr) (b.natAbs + 1) a.natAbs b.natAbs (by omega)
    rw [← eb] at e
    rw [abs_eq]
    exact e
  rw [e0, e1]
  have hg : 0 < Int.gcd a b := Int.gcd_pos_of_ne_zero_right a (by omega)
  have es : shr a b = ((Int.gcd a b : Nat) : Int) := by unfold shr; rw [if_neg (by omega)]
  have hs2 := (shr_small (a := a) (b := b) (by omega)).2
  rw [es] at hs2
  have c : CDivW a ((Int.gcd a b : Nat) : Int) := divW (by omega) (b := 650) (Nat.lt_of_le_of_lt hs2 hs)
  show guardR (CDivW a ((Int.gcd a b : Nat) : Int)) (guardR (CDivW b ((Int.gcd a b : Nat) : Int)) (.ok (⟨a / ((Int.gcd a b : Nat) : Int), b / ((Int.gcd a b : Nat) : Int)⟩ : Fr))) = _
  unfold guardR
  rw [if_pos c, if_pos (show CDivW b ((Int.gcd a b : Nat) : Int) from c)]
  unfold lowT
  rw [es, Int.fdiv_eq_ediv_of_nonneg a (by omega), Int.fdiv_eq_ediv_of_nonneg b (by omega)]
theorem less_eq {f g : Fr} (hf : G40 f) (hg : G40 g) : m_less f g = .ok (decide (f.a * g.b < g.a * f.b)) := by
  unfold m_less guardR
  rw [if_pos (cw hf.2.1 hg.2.2), if_pos (cw hg.2.1 hf.2.2)]
theorem sign_eq {f n d : Int} {b : Int} (h : f * d = n * b) (hd : 0 < d) (hb : 0 < b) : (f < 0) ↔ (n < 0) := by
  constructor
  · intro c
    have : f * d < 0 := Int.mul_neg_of_neg_of_pos c hd
    rw [h] at this
    rcases Int.lt_or_le n 0 with q | q
    · exact q
    · have := Int.mul_nonneg q (Int.le_of_lt hb)
      omega
  · intro c
    have : n * b < 0 := Int.mul_neg_of_neg_of_pos c hb
    rw [← h] at this
    rcases Int.lt_or_le f 0 with q | q
    · exact q
    · have := Int.mul_nonneg q (Int.le_of_lt hd)
      omega
theorem alike_iff {f g : Fr} (hf : Low f) (hg : Low g) : eqD (enc f) (enc g) = decide (f.a * g.b = g.a * f.b) := by
  by_cases h : f.a * g.b = g.a * f.b
  · obtain ⟨p, q⟩ := f
    obtain ⟨u, v⟩ := g
    obtain ⟨rfl, rfl⟩ := uniq h hf.2 hg.2 hf.1 hg.1
    rw [decide_eq_true h]
    exact eqD_refl rfl
  · rw [decide_eq_false h]
    obtain ⟨p, q⟩ := f
    obtain ⟨u, v⟩ := g
    show ((p == u) && ((q == v) && true)) = false
    by_cases e1 : p = u
    · by_cases e2 : q = v
      · subst e1 e2; exact absurd rfl h
      · rw [show (q == v) = false from by simpa using e2]; simp
    · rw [show (p == u) = false from by simpa using e1]; simp
theorem order_ok {l : List Fr} (hl : ∀ x ∈ l, G40 x) : Ok (l_order_right l) fun r => r = true := by
  unfold l_order_right
  refine Ok.bind (Ok.for (fun _ => True) (fun f s mf _ => ?_) trivial) ?_
  · refine Ok.bind (Ok.for (fun _ => True) (fun g s mg _ => ?_) trivial) ?_
    · have hf := hl f mf
      have hg := hl g mg
      refine Ok.guard (cw hf.2.1 hg.2.2) (Ok.guard (cw hg.2.1 hf.2.2) (Ok.lt ?_))
      refine Ok.bindE (less_eq hf hg) (Ok.iteF (by simp) ?_)
      obtain ⟨t, e, r⟩ := minusR (Rel.self hf.1) (Rel.self hg.1) (up hf.2.1 (by decide)) (up hf.2.2 (by decide)) (up hg.2.1 (by decide)) (up hg.2.2 (by decide))
      have si := sign_eq r.2.2 r.2.1 r.1.1
      refine Ok.bindE (noErr_ok e) (Ok.iteF ?_ ?_)
      · have : (t.a < 0) ↔ (f.a * g.b < g.a * f.b) := si.trans (by omega)
        simp [decide_eq_decide.mpr this]
      · refine Ok.bindE (less_eq hg hf) (Ok.guard (okEq_of rfl rfl) (Ok.iteF ?_ (Ok.pure ⟨_, rfl, trivial⟩)))
        rw [alike_iff hf.1 hg.1]
        generalize f.a * g.b = u
        generalize g.a * f.b = v
        rcases Int.lt_trichotomy u v with c | c | c
        · rw [decide_eq_true c, decide_eq_false (show ¬ v < u by omega), decide_eq_false (show ¬ u = v by omega)]; rfl
        · rw [decide_eq_false (show ¬ u < v by omega), decide_eq_false (show ¬ v < u by omega), decide_eq_true c]; rfl
        · rw [decide_eq_false (show ¬ u < v by omega), decide_eq_true c, decide_eq_false (show ¬ u = v by omega)]; rfl
    · rintro _ ⟨_, rfl, _⟩
      exact Ok.pure ⟨_, rfl, trivial⟩
  · rintro _ ⟨_, rfl, _⟩
    exact Ok.pure rfl
theorem erase_perm : ∀ {l : List Fr} {k : Nat} (h : k < l.length), (l[k] :: l.eraseIdx k).Perm l
  | [], k, h => absurd h (Nat.not_lt_zero k)
  | x :: xs, 0, _ => List.Perm.refl _
  | x :: xs, k + 1, h => (List.Perm.swap x _ _).trans ((erase_perm (l := xs) (k := k) (Nat.lt_of_succ_lt_succ h)).cons x)
theorem mixed_ok {st : List Int} {l : List Fr} (h : Gd st) (hl : l.length ≤ 13) : Ok (l_mixed st l) fun r => r.1.Perm l ∧ Gd r.2 := by
  unfold l_mixed
  have key : ∀ (n : Nat) (acc left : List Fr) (s : List Int), left.length < n → Gd s → acc.length + left.length ≤ 13 →
      Ok (whileR n (acc, left, s) (fun (a29 : List Fr × List Fr × List Int) => guardR (okEq (enc a29.2.1) (enc ([] : List D))) <| (if (!(eqD (enc a29.2.1) (enc ([] : List D)))) = true then (l_digit a29.2.2 (a29.2.1.length : Int)).bind fun x46 => (popR a29.2.1 x46.1).bind fun x54 => guardR (a29.1.length < 1000000) <| (.ok (.nx ((a29.1 ++ [x54.1]), x54.2, x46.2)) : Res (Fl (List Fr × List Fr × List Int) (List Fr × List Int))) else .ok (.bk (a29.1, a29.2.1, a29.2.2))))) fun r => ∃ acc' s', r = .bk (acc', [], s') ∧ acc'.Perm (acc ++ left) ∧ Gd s' := by
    intro n
    induction n with
    | zero => intro acc left s h; omega
    | succ n ih =>
      intro acc left s hn hs ha
      unfold whileR
      have ge : eqOk 20 (enc left) = true := by
        show eqOks 19 (left.map enc) = true
        clear hn ha ih
        induction left with
        | nil => rfl
        | cons x xs ih2 => show (eqOk 19 (enc x) && eqOks 19 (xs.map enc)) = true; rw [ih2]; rfl
      cases left with
      | nil => exact Ok.bind (φ := fun r => r = .bk (acc, [], s)) (Ok.guard (okEq_of rfl rfl) (Ok.iteF rfl (Ok.pure rfl))) fun r e => by rw [e]; exact Ok.pure ⟨acc, s, rfl, by rw [List.append_nil], hs⟩
      | cons x xs =>
        refine Ok.bind (φ := fun r => ∃ y k s', r = .nx (acc ++ [y], (x :: xs).eraseIdx k, s') ∧ (y :: (x :: xs).eraseIdx k).Perm (x :: xs) ∧ Gd s' ∧ ((x :: xs).eraseIdx k).length < n ∧ (acc ++ [y]).length + ((x :: xs).eraseIdx k).length ≤ 13) ?_ ?_
        · refine Ok.guard (okEq_of ge rfl) (Ok.iteT rfl ?_)
          have hle : (x :: xs).length ≤ 13 := by omega
          have hln : (x :: xs).length < n + 1 := hn
          refine dg hs (by show (0 : Int) < ((x :: xs).length : Int); rw [List.length_cons]; omega) (bg (by show (((x :: xs).length : Nat) : Int).natAbs < _; omega)) fun i s' h0 h1 hs' => ?_
          have hi : i.toNat < (x :: xs).length := by simp only at h1; omega
          refine Ok.bindE (a := ((x :: xs)[i.toNat], (x :: xs).eraseIdx i.toNat)) ?_ (Ok.guard (by simp only; omega) (Ok.pure ⟨_, i.toNat, s', rfl, erase_perm hi, gd3 hs', ?_, ?_⟩))
          · unfold popR
            rw [if_pos ⟨h0, h1, by show (x :: xs).length ≤ 1000000; omega⟩, List.getElem?_eq_getElem hi]
          · rw [List.length_eraseIdx_of_lt hi]; omega
          · rw [List.length_eraseIdx_of_lt hi, List.length_append, List.length_singleton]; omega
        · rintro _ ⟨y, k, s', rfl, p, g, l1, l2⟩
          refine (ih _ _ _ l1 g l2).mono ?_
          rintro r ⟨acc', s2, e, p2, g2⟩
          refine ⟨acc', s2, e, p2.trans ?_, g2⟩
          rw [List.append_assoc]
          exact List.Perm.append_left acc p
  refine Ok.bind (key (l.length + 1) [] l st (Nat.lt_succ_self _) h (by simpa using hl)) ?_
  rintro _ ⟨acc', s', rfl, p, g⟩
  exact Ok.pure ⟨p, g⟩
/-- a drawn pair: not in lowest terms -/
def P20 (x : Fr) : Prop := 0 < x.b ∧ x.a.natAbs < 2 ^ 21 ∧ x.b.natAbs < 2 ^ 21
def lw (p : Fr) : Fr := lowT p.a p.b
theorem P20.low {p : Fr} (h : P20 p) : G40 (lw p) ∧ Rel (lw p) p.a p.b := by
  have q := lowT_of (a := p.a) (b := p.b) (by have := h.1; omega)
  refine ⟨⟨⟨q.1, q.2.1⟩, Nat.lt_of_le_of_lt q.2.2.2.1 (up h.2.1 (by decide)), Nat.lt_of_le_of_lt q.2.2.2.2 (up h.2.2 (by decide))⟩, Rel.of h.1⟩
theorem b2z_le (b : Bool) : b2z b = 0 ∨ b2z b = 1 := by cases b <;> simp [b2z]
theorem eqOk_frs : ∀ (l : List Fr), eqOk 20 (enc l) = true := fun l => by
  show eqOks 19 (l.map enc) = true
  induction l with
  | nil => rfl
  | cons x xs ih => show (eqOk 19 (enc x) && eqOks 19 (xs.map enc)) = true; rw [ih]; rfl
theorem ne_nil {l : List Fr} (h : eqD (enc l) (enc ([] : List D)) = false) : 0 < l.length := by
  cases l with
  | nil => exact nomatch h
  | cons x xs => exact Nat.succ_pos _
theorem drawn_ok {st : List Int} {l : List Fr} (h : Gd st) (hk : l.length ≤ 13) (hl : ∀ x ∈ l, P20 x) : Ok (l_drawn st l) fun r => P20 r.1 := by
  unfold l_drawn
  refine dg h (by decide) (bg (by decide)) fun x1 s1 a1 b1 h1 => ?_
  refine dg (gd3 h1) (by decide) (bg (by decide)) fun x2 s2 a2 b2 h2 => Ok.ixm a2 b2 fun c m => ?_
  have hc : c = 10 ∨ c = 1000000 := by simpa using m
  refine dg (gd3 h2) (by omega) (bg (by omega)) fun x3 s3 a3 b3 h3 => ?_
  refine dg (gd3 h3) (by decide) (bg (by decide)) fun x4 s4 a4 b4 h4 => Ok.ixm a4 b4 fun z m2 => ?_
  have hz : z = 1 ∨ z = -1 := by simpa using m2
  refine Ok.guard (cw (m := 30) (n := 2) (by simp only; omega) (by omega)) (Ok.lt ?_)
  have ht : (x3 * z).natAbs < 2 ^ 20 := by rcases hz with rfl | rfl <;> omega
  simp only
  generalize x3 * z = top at ht
  refine dg (gd3 h4) (by decide) (bg (by decide)) fun x5 s5 a5 b5 h5 => Ok.ixm a5 b5 fun c2 m3 => ?_
  have hc2 : c2 = 12 ∨ c2 = 1000000 := by simpa using m3
  refine dg (gd3 h5) (by omega) (bg (by omega)) fun x6 s6 a6 b6 h6 => Ok.lt ?_
  have hb : ∀ {b : Bool}, Ok ((if b = true then guardR (okEq (enc l) (enc ([] : List D))) <| (.ok (!(eqD (enc l) (enc ([] : List D)))) : Res Bool) else .ok false)) fun r => r = true → 0 < l.length := fun {b} =>
    Ok.ite (fun _ => Ok.guard (okEq_of (eqOk_frs l) rfl) (Ok.pure fun e => ne_nil (by simpa using e))) fun _ => Ok.pure fun e => nomatch e
  refine Ok.bind hb fun b1 e1 => Ok.ite (fun c1 => ?_) fun _ => ?_
  · refine dg (gd3 h6) (by have := e1 c1; omega) (bg (by omega)) fun x7 s7 a7 b7 h7 => Ok.ixm a7 b7 fun y my => Ok.pure (hl y my)
  · refine Ok.bind hb fun b2 e2 => Ok.ite (fun c2 => ?_) fun _ => ?_
    · refine dg (gd3 h6) (by have := e2 c2; omega) (bg (by omega)) fun x7 s7 a7 b7 h7 => Ok.ixm a7 b7 fun y my => Ok.pure ?_
      have p := hl y my
      exact ⟨p.1, by show (0 - y.a).natAbs < _; have := p.2.1; omega, p.2.2⟩
    · have q := b2z_le (!decide (x1 = 2))
      simp only
      generalize b2z (!decide (x1 = 2)) = w at q
      refine Ok.guard (cw (m := 20) (n := 2) ht (by omega)) (Ok.pure ⟨by show 0 < 1 + x6; omega, ?_, by show (1 + x6).natAbs < _; omega⟩)
      show (top * w).natAbs < 2 ^ 21
      rcases q with rfl | rfl <;> omega
theorem dd_pos : ∀ (l : List Fr), (∀ x ∈ l, 0 < x.b) → 0 < Dd l
  | [], _ => by decide
  | x :: l, h => Int.mul_pos (h x List.mem_cons_self) (dd_pos l fun y m => h y (List.mem_cons_of_mem _ m))
theorem lw_cross : ∀ (l : List Fr), (∀ x ∈ l, P20 x) → Nn (l.map lw) * Dd l = Nn l * Dd (l.map lw) ∧ Pn (l.map lw) * Dd l = Pn l * Dd (l.map lw)
  | [], _ => ⟨rfl, rfl⟩
  | x :: l, h => by
    obtain ⟨i1, i2⟩ := lw_cross l fun y m => h y (List.mem_cons_of_mem _ m)
    have e := (h x List.mem_cons_self).low.2.2.2
    show ((lw x).a * Dd (l.map lw) + Nn (l.map lw) * (lw x).b) * (x.b * Dd l) = (x.a * Dd l + Nn l * x.b) * ((lw x).b * Dd (l.map lw)) ∧ ((lw x).a * Pn (l.map lw)) * (x.b * Dd l) = (x.a * Pn l) * ((lw x).b * Dd (l.map lw))
    constructor
    · grind
    · have : ((lw x).a * x.b) * (Pn (l.map lw) * Dd l) = (x.a * (lw x).b) * (Pn l * Dd (l.map lw)) := by rw [e, i2]
      grind
theorem P20.s {x : Fr} (h : P20 x) : S42 x := ⟨h.1, up h.2.1 (by decide), up h.2.2 (by decide)⟩
theorem worth_sum : ∀ (l : List Fr) (d : Int), (∀ x ∈ l, 0 < x.b) → (l.map fun x => x.a * ((d * Dd l) / x.b)).sum = Nn l * d
  | [], d, _ => by show (0 : Int) = 0 * d; rw [Int.zero_mul]
  | x :: l, d, h => by
    have hx := h x List.mem_cons_self
    have ih := worth_sum l (d * x.b) fun y m => h y (List.mem_cons_of_mem _ m)
    have e : d * Dd (x :: l) = d * x.b * Dd l := by show d * (x.b * Dd l) = _; rw [Int.mul_assoc]
    rw [e]
    show x.a * (d * x.b * Dd l / x.b) + (l.map fun y => y.a * ((d * x.b * Dd l) / y.b)).sum = (x.a * Dd l + Nn l * x.b) * d
    rw [ih]
    have e2 : d * x.b * Dd l / x.b = d * Dd l := by
      rw [show d * x.b * Dd l = d * Dd l * x.b from by grind]
      exact Int.mul_ediv_cancel _ (by omega)
    rw [e2]
    grind
theorem worth_loop : ∀ (l : List Fr) (d : Int) (k : Nat), Bn k d → k + l.length ≤ 14 → (∀ x ∈ l, P20 x) → forR l d (fun x13 (a12 : Int) => guardR (CMulW a12 x13.b) <| lt ((a12 * x13.b) : Int) fun x26 => (.ok (.nx x26) : Res (Fl Int Fr))) = .ok (.nx (d * Dd l))
  | [], d, k, _, _, _ => by show Res.ok (Fl.nx d) = .ok (.nx (d * 1)); rw [Int.mul_one]
  | x :: l, d, k, hd, hk, h => by
    have hx := (h x List.mem_cons_self).s
    have hk' : k + (l.length + 1) ≤ 14 := hk
    unfold forR
    show (guardR (CMulW d x.b) (.ok (.nx (d * x.b)) : Res (Fl Int Fr))).bind _ = _
    unfold guardR
    rw [if_pos (cw (hd.b6 (by omega)) hx.2.2)]
    show forR l (d * x.b) _ = _
    have ih := worth_loop l (d * x.b) (k + 1) (hd.mul hx.2.2) (by omega) fun y m => h y (List.mem_cons_of_mem _ m)
    unfold guardR at ih
    rw [ih]
    show Res.ok (Fl.nx (d * x.b * Dd l)) = .ok (.nx (d * (x.b * Dd l)))
    rw [Int.mul_assoc]
theorem worth_ok {l : List Fr} (hk : l.length ≤ 13) (h : ∀ x ∈ l, P20 x) : l_worth l = .ok ⟨Nn l, Dd l⟩ := by
  have hp := dd_pos l fun x m => (h x m).1
  have hb := (Dd_bn l fun x m => (h x m).s).1
  unfold l_worth
  rw [worth_loop l 1 0 (by show (1 : Nat) ≤ 1; decide) (by omega) h, Int.one_mul]
  show ((compR l () _).bind _) = _
  rw [compR_map (g := fun x => x.a * (Dd l / x.b)) (by omega) ?_]
  · show Res.ok (⟨(l.map fun x => x.a * (Dd l / x.b)).sum, Dd l⟩ : Fr) = _
    have e := worth_sum l 1 fun x m => (h x m).1
    rw [Int.one_mul, Int.mul_one] at e
    rw [e]
  · intro x m
    have hx := (h x m).s
    have hq : (Dd l / x.b).natAbs < 2 ^ 650 := Nat.lt_of_le_of_lt (Int.natAbs_ediv_le_natAbs _ _) (hb.b6 (by omega))
    unfold guardR
    rw [if_pos (show CDivW (Dd l) x.b from divW hx.1 hx.2.2), if_pos (cw hx.2.1 hq)]
theorem floor_eq {f : Fr} (h : 0 < f.b) (hs : f.b.natAbs < 2 ^ 650) : m_floor f = .ok (f.a / f.b) := by
  unfold m_floor guardR
  rw [if_pos (divW h hs)]
theorem floors : ∀ (l : List Fr), (∀ x ∈ l, 0 < x.b) → (l.map fun x => x.a / x.b).sum * Dd l ≤ Nn l ∧ Nn l ≤ ((l.map fun x => x.a / x.b).sum + l.length) * Dd l ∧ (0 < l.length → Nn l < ((l.map fun x => x.a / x.b).sum + l.length) * Dd l)
  | [], _ => ⟨by decide, by decide, fun h => absurd h (by decide)⟩
  | x :: l, h => by
    have hx := h x List.mem_cons_self
    obtain ⟨i1, i2, _⟩ := floors l fun y m => h y (List.mem_cons_of_mem _ m)
    have hd := dd_pos l fun y m => h y (List.mem_cons_of_mem _ m)
    show (x.a / x.b + (l.map fun x => x.a / x.b).sum) * (x.b * Dd l) ≤ x.a * Dd l + Nn l * x.b ∧ x.a * Dd l + Nn l * x.b ≤ ((x.a / x.b + (l.map fun x => x.a / x.b).sum) + ((l.length + 1 : Nat) : Int)) * (x.b * Dd l) ∧ (_ → x.a * Dd l + Nn l * x.b < ((x.a / x.b + (l.map fun x => x.a / x.b).sum) + ((l.length + 1 : Nat) : Int)) * (x.b * Dd l))
    have e1 : x.a / x.b * x.b ≤ x.a := Int.ediv_mul_le x.a (by omega)
    have e2 : x.a < (x.a / x.b + 1) * x.b := Int.lt_ediv_add_one_mul_self x.a hx
    generalize x.a / x.b = q at *
    generalize (l.map fun x => x.a / x.b).sum = S at *
    have f1 : q * x.b * Dd l ≤ x.a * Dd l := Int.mul_le_mul_of_nonneg_right e1 (Int.le_of_lt hd)
    have f2 : x.a * Dd l < (q + 1) * x.b * Dd l := Int.mul_lt_mul_of_pos_right e2 hd
    have f3 : S * Dd l * x.b ≤ Nn l * x.b := Int.mul_le_mul_of_nonneg_right i1 (Int.le_of_lt hx)
    have f4 : Nn l * x.b ≤ (S + l.length) * Dd l * x.b := Int.mul_le_mul_of_nonneg_right i2 (Int.le_of_lt hx)
    have g1 : (q + S) * (x.b * Dd l) = q * x.b * Dd l + S * Dd l * x.b := by grind
    have g2 : (q + S + ((l.length + 1 : Nat) : Int)) * (x.b * Dd l) = (q + 1) * x.b * Dd l + (S + l.length) * Dd l * x.b := by
      rw [show ((l.length + 1 : Nat) : Int) = (l.length : Int) + 1 from by omega]
      grind
    rw [g1, g2]
    exact ⟨by omega, by omega, fun _ => by omega⟩
theorem spread_cross {s : Fr} {t : Fr → Fr} : ∀ (l : List Fr), (∀ x ∈ l, (t x).a * (s.b * x.b) = (s.a * x.a) * (t x).b) → Nn (l.map t) * (s.b * Dd l) = (s.a * Nn l) * Dd (l.map t)
  | [], _ => by show (0 : Int) * (s.b * 1) = s.a * 0 * 1; rw [Int.zero_mul, Int.mul_zero, Int.zero_mul]
  | x :: l, h => by
    have e := h x List.mem_cons_self
    have ih := spread_cross (s := s) (t := t) l fun y m => h y (List.mem_cons_of_mem _ m)
    show ((t x).a * Dd (l.map t) + Nn (l.map t) * (t x).b) * (s.b * (x.b * Dd l)) = (s.a * (x.a * Dd l + Nn l * x.b)) * ((t x).b * Dd (l.map t))
    have e1 : ((t x).a * (s.b * x.b)) * (Dd (l.map t) * Dd l) = ((s.a * x.a) * (t x).b) * (Dd (l.map t) * Dd l) := by rw [e]
    have e2 : (Nn (l.map t) * (s.b * Dd l)) * ((t x).b * x.b) = ((s.a * Nn l) * Dd (l.map t)) * ((t x).b * x.b) := by rw [ih]
    grind
theorem cell_ok {ns : List Int} {i : Int} (h0 : 0 ≤ i) : Ok (l_cell_at ns i) fun _ => True := by
  unfold l_cell_at
  exact Ok.ite (fun c => Ok.ix h0 (of_decide_eq_true c) fun x _ _ => Ok.pure trivial) fun _ => Ok.pure trivial
theorem pairs_ok : ∀ (cs : List Int) (acc : List Fr), acc.length + cs.length ≤ 12 → (∀ x ∈ acc, P20 x) →
    Ok (forR cs acc (fun x46 (a45 : List Fr) => (l_drawn ([x46] : List Int) a45).bind fun x61 => guardR (a45.length < 1000000) <| (.ok (.nx (a45 ++ [x61.1])) : Res (Fl (List Fr) Bool)))) fun r => ∃ acc', r = .nx acc' ∧ acc'.length = acc.length + cs.length ∧ ∀ x ∈ acc', P20 x
  | [], acc, _, h => ⟨_, rfl, acc, rfl, rfl, h⟩
  | c :: cs, acc, hk, h => by
    have hk' : acc.length + (cs.length + 1) ≤ 12 := hk
    unfold forR
    refine Ok.bind (φ := fun r => ∃ x, r = .nx (acc ++ [x]) ∧ P20 x) ?_ ?_
    · exact Ok.bind (drawn_ok (.inl rfl) (by omega) h) fun r p => Ok.guard (by omega) (Ok.pure ⟨_, rfl, p⟩)
    · rintro _ ⟨x, rfl, p⟩
      refine (pairs_ok cs (acc ++ [x]) (by rw [List.length_append, List.length_singleton]; omega) ?_).mono ?_
      · intro y m
        rcases List.mem_append.mp m with m | m
        · exact h y m
        · rw [List.mem_singleton.mp m]; exact p
      · rintro r ⟨acc', e, l, q⟩
        exact ⟨acc', e, by rw [l, List.length_append, List.length_singleton]; show _ = acc.length + (cs.length + 1); omega, q⟩
theorem tops_loop : ∀ (l : List Fr) (d : Int) (k : Nat), Bn k d → k + l.length ≤ 14 → (∀ x ∈ l, P20 x) → forR l d (fun x268 (a267 : Int) => guardR (CMulW a267 x268.a) <| lt ((a267 * x268.a) : Int) fun x281 => (.ok (.nx x281) : Res (Fl Int Bool))) = .ok (.nx (d * Pn l))
  | [], d, k, _, _, _ => by show Res.ok (Fl.nx d) = .ok (.nx (d * 1)); rw [Int.mul_one]
  | x :: l, d, k, hd, hk, h => by
    have hx := (h x List.mem_cons_self).s
    have hk' : k + (l.length + 1) ≤ 14 := hk
    unfold forR
    show (guardR (CMulW d x.a) (.ok (.nx (d * x.a)) : Res (Fl Int Bool))).bind _ = _
    unfold guardR
    rw [if_pos (cw (hd.b6 (by omega)) hx.2.1)]
    show forR l (d * x.a) _ = _
    have ih := tops_loop l (d * x.a) (k + 1) (hd.mul hx.2.1) (by omega) fun y m => h y (List.mem_cons_of_mem _ m)
    unfold guardR at ih
    rw [ih]
    show Res.ok (Fl.nx (d * x.a * Pn l)) = .ok (.nx (d * (x.a * Pn l)))
    rw [Int.mul_assoc]
theorem cut_app {l : List Fr} {h : Int} (h0 : 0 ≤ h) (h1 : h ≤ l.length) : cutL l none (some h) ++ cutL l (some h) none = l := by
  obtain ⟨k, rfl⟩ := Int.eq_ofNat_of_zero_le h0
  have hk : k ≤ l.length := by omega
  unfold cutL
  rw [HT.sIx_nat, HT.sIx_none, HT.sIx_nat, HT.sIx_none, Nat.min_eq_left hk, List.drop_zero, Nat.sub_zero]
  rw [show (l.drop k).take (l.length - k) = l.drop k from List.take_of_length_le (by rw [List.length_drop]; omega)]
  exact List.take_append_drop k l
theorem _root_.Y.Ok.bind2 {α β γ : Type} {m : Res (α × β)} {l : α} {u : β} {k : α → β → Res γ} {ψ : γ → Prop} (e : m = .ok (l, u)) (h : Ok (k l u) ψ) : Ok (m.bind (un2 k)) ψ := by rw [e]; exact h
theorem same {g : Fr} {m : Res Fr} (h : m = .ok g) {k : Fr → Res Bool} {ψ : Bool → Prop} (hk : Ok (k g) ψ) : Ok (m.bind k) ψ := by rw [h]; exact hk
theorem okF {f g : Fr} : okEq (enc f) (enc g) := okEq_of rfl rfl
theorem neF {f : Fr} : (!(eqD (enc f) (enc f))) = false := by rw [eqD_refl rfl]; rfl
theorem Rel.uq {f g : Fr} {n d : Int} (h : Rel f n d) (h' : Rel g n d) : f = g := h.eq.trans h'.eq.symm
theorem law_ok (ns : List Int) (h : ns.length ≤ 63) : m_law ns = .ok true := by
  have q : Ok (m_law ns) fun r => r = true := by
    unfold m_law
    refine Ok.guard (by show ns.length + 2 ≤ 1000000; omega) ?_
    have hc : (cutL (ns ++ ([0, 1] : List Int)) none (some 12)).length = min 12 (ns.length + 2) := by
      unfold cutL
      rw [show (some (12 : Int)) = some ((12 : Nat) : Int) from rfl, HT.sIx_nat, HT.sIx_none, List.length_take, List.length_drop, List.length_append]
      show min _ _ = _
      simp only [List.length_cons, List.length_nil]
      omega
    refine Ok.bind (pairs_ok _ [] (by show 0 + _ ≤ 12; omega) (fun _ m => nomatch m)) ?_
    rintro _ ⟨ps, rfl, hl0, hP⟩
    have hl : ps.length = min 12 (ns.length + 2) := by rw [hl0, hc]; show 0 + _ = _; omega
    have hlen : 2 ≤ ps.length ∧ ps.length ≤ 12 := by omega
    obtain ⟨xs, hxs⟩ : ∃ xs, ps.map lw = xs := ⟨_, rfl⟩
    refine Ok.bind2 (l := xs) (u := ()) (by rw [← hxs]; exact compR_map (g := lw) (by omega) (fun x m => by
      have hx := hP x m
      rw [frac_eq hx.1 (up hx.2.2 (by decide))]
      rfl)) ?_
    have hX : ∀ x ∈ xs, G40 x := fun x m => by
      rw [← hxs] at m
      obtain ⟨p, mp, rfl⟩ := List.mem_map.mp m
      exact (hP p mp).low.1
    have hxl : xs.length = ps.length := by rw [← hxs, List.length_map]
    have hdp := dd_pos ps fun x m => (hP x m).1
    have hdx := dd_pos xs fun x m => (hX x m).1.1
    obtain ⟨cr1, cr2⟩ := lw_cross ps hP
    rw [hxs] at cr1 cr2
    refine Ok.bindE (worth_ok (by omega) hP) ?_
    refine Ok.bind (cell_ok (by decide)) fun x134 _ => ?_
    refine dg (.inl rfl) (by omega) (bg (by omega)) fun hf s1 a1 b1 g1 => ?_
    obtain ⟨g0, eg, rg⟩ := sum_ok (l := xs) (by omega) hX
    have rp : Rel g0 (Nn ps) (Dd ps) := rg.cast hdp cr1
    have bN : B6 (Nn xs) := (Nn_bn xs fun x m => (hX x m).s).b6 (by omega)
    have bD : B6 (Dd xs) := (Dd_bn xs fun x m => (hX x m).s).1.b6 (by omega)
    have bDp : B6 (Dd ps) := (Dd_bn ps fun x m => (hP x m).s).1.b6 (by omega)
    have bP : B6 (Pn xs) := (Pn_bn xs fun x m => (hX x m).s).b6 (by omega)
    refine Ok.bindE eg ?_
    refine Ok.bindE ((lowest_eq hdp bDp).trans (congrArg Res.ok rp.eq.symm)) (Ok.guard okF (Ok.iteF neF ?_))
    -- halves
    have ha := cut_app (l := xs) (h := hf) a1 (by omega)
    have c1 := cutL_len (l := xs) (lo := none) (hi := some hf)
    have c2 := cutL_len (l := xs) (lo := some hf) (hi := none)
    have hX1 : ∀ x ∈ cutL xs none (some hf), G40 x := fun x m => hX x (cutL_mem m)
    have hX2 : ∀ x ∈ cutL xs (some hf) none, G40 x := fun x m => hX x (cutL_mem m)
    show Ok ((l_sum (cutL xs none (some hf))).bind _) _
    generalize cutL xs none (some hf) = u1 at *
    show Ok (_ : Res Bool) _
    obtain ⟨g1', e1, r1⟩ := sum_ok (l := u1) (by omega) hX1
    refine Ok.bindE e1 ?_
    show Ok ((l_sum (cutL xs (some hf) none)).bind _) _
    generalize cutL xs (some hf) none = u2 at *
    obtain ⟨g2', e2, r2⟩ := sum_ok (l := u2) (by omega) hX2
    refine Ok.bindE e2 ?_
    have bb : ∀ {l : List Fr}, l.length ≤ xs.length → (∀ x ∈ l, G40 x) → B6 (Nn l) ∧ B6 (Dd l) ∧ B6 (Pn l) := fun {l} hh hg => ⟨(Nn_bn l fun x m => (hg x m).s).b6 (by omega), (Dd_bn l fun x m => (hg x m).s).1.b6 (by omega), (Pn_bn l fun x m => (hg x m).s).b6 (by omega)⟩
    obtain ⟨n1, d1, p1⟩ := bb c1 hX1
    obtain ⟨n2, d2, p2⟩ := bb c2 hX2
    obtain ⟨g3, e3, r3⟩ := plusR r1 r2 n1 d1 n2 d2
    rw [← Nn_app, ← Dd_app, ha] at r3
    refine Ok.bindE ((noErr_ok e3).trans (congrArg Res.ok (r3.uq rg))) (Ok.guard okF (Ok.iteF neF ?_))
    -- orders
    refine Ok.bind (mixed_ok (gd3 g1) (by omega)) fun ⟨ys, s2⟩ ⟨py, gs2⟩ => ?_
    obtain ⟨g4, e4, r4⟩ := sum_ok (l := ys) (by rw [py.length_eq]; omega) fun x m => hX x (py.mem_iff.mp m)
    rw [Nn_perm py, Dd_perm py] at r4
    refine Ok.bindE (e4.trans (congrArg Res.ok (r4.uq rg))) (Ok.guard okF (Ok.iteF neF ?_))
    have pr : xs.reverse.Perm xs := List.reverse_perm xs
    obtain ⟨g5, e5, r5⟩ := sum_ok (l := xs.reverse) (by rw [pr.length_eq]; omega) fun x m => hX x (pr.mem_iff.mp m)
    rw [Nn_perm pr, Dd_perm pr] at r5
    refine Ok.bindE (e5.trans (congrArg Res.ok (r5.uq rg))) (Ok.guard okF (Ok.iteF neF ?_))
    -- the product
    obtain ⟨q0, eq0, rq⟩ := prod_ok (l := xs) (by omega) hX
    refine Ok.bindE eq0 ?_
    refine Ok.bind (mixed_ok gs2 (by omega)) fun ⟨zs, s3⟩ ⟨pz, _⟩ => ?_
    obtain ⟨q1, eq1, rq1⟩ := prod_ok (l := zs) (by rw [pz.length_eq]; omega) fun x m => hX x (pz.mem_iff.mp m)
    rw [Pn_perm pz, Dd_perm pz] at rq1
    refine Ok.bindE (eq1.trans (congrArg Res.ok (rq1.uq rq))) (Ok.guard okF (Ok.iteF neF ?_))
    refine Ok.bind (order_ok hX) fun bo eo => Ok.iteT eo ?_
    refine Ok.bindE (tops_loop ps 1 0 (by show (1 : Nat) ≤ 1; decide) (by omega) hP) ?_
    show Ok ((l_lowest (1 * Pn ps) (Dd ps)).bind _) _
    rw [Int.one_mul]
    refine Ok.bindE ((lowest_eq hdp bDp).trans (congrArg Res.ok (rq.cast hdp cr2).eq.symm)) (Ok.guard okF (Ok.iteF neF ?_))
    obtain ⟨q2, eq2, rq2⟩ := prod_ok (l := u1) (by omega) hX1
    obtain ⟨q3, eq3, rq3⟩ := prod_ok (l := u2) (by omega) hX2
    refine Ok.bindE eq2 (Ok.bindE eq3 ?_)
    obtain ⟨q4, eq4, rq4⟩ := timesR rq2 rq3 p1 d1 p2 d2
    rw [← Pn_app, ← Dd_app, ha] at rq4
    refine Ok.bindE ((noErr_ok eq4).trans (congrArg Res.ok (rq4.uq rq))) (Ok.guard okF (Ok.iteF neF ?_))
    -- the spread
    obtain ⟨s, tl, exs⟩ : ∃ s tl, xs = s :: tl := by
      cases hh : xs with
      | nil => rw [hh] at hxl; simp at hxl; omega
      | cons s tl => exact ⟨s, tl, rfl⟩
    have i0 : ixR xs 0 = .ok s := by
      rw [exs]
      obtain ⟨x, e, e2, m⟩ := atI_in (l := s :: tl) (i := 0) (by decide) (by rw [List.length_cons]; omega)
      have : s = x := Option.some.inj e2
      unfold ixR
      rw [e, this]
    have hms : s ∈ xs := by rw [exs]; exact List.mem_cons_self
    have hPs : ∀ x ∈ xs, x.a.natAbs < 2 ^ 21 ∧ x.b.natAbs < 2 ^ 21 := fun x m => by
      rw [← hxs] at m
      obtain ⟨p, mp, rfl⟩ := List.mem_map.mp m
      have z := lowT_of (a := p.a) (b := p.b) (by have := (hP p mp).1; omega)
      exact ⟨Nat.lt_of_le_of_lt z.2.2.2.1 (hP p mp).2.1, Nat.lt_of_le_of_lt z.2.2.2.2 (hP p mp).2.2⟩
    have hs := hPs s hms
    have ht : ∀ x ∈ xs, m_times s x = .ok (lowT (s.a * x.a) (s.b * x.b)) := fun x m => by
      obtain ⟨g, e, r⟩ := timesR (Rel.self (hX s hms).1) (Rel.self (hX x m).1) (up hs.1 (by decide)) (up hs.2 (by decide)) (up (hPs x m).1 (by decide)) (up (hPs x m).2 (by decide))
      rw [e, r.eq]
    refine Ok.bind2 (compR_map (g := fun x => lowT (s.a * x.a) (s.b * x.b)) (by omega) (fun x m => by rw [i0]; show ((m_times s x).noErr).bind _ = _; rw [ht x m]; rfl)) ?_
    have hY : ∀ y ∈ xs.map (fun x => lowT (s.a * x.a) (s.b * x.b)), G40 y := fun y m => by
      obtain ⟨x, mx, rfl⟩ := List.mem_map.mp m
      have pb : 0 < s.b * x.b := Int.mul_pos (hX s hms).1.1 (hX x mx).1.1
      have z := lowT_of (a := s.a * x.a) (b := s.b * x.b) (by omega)
      exact ⟨⟨z.1, z.2.1⟩, Nat.lt_of_le_of_lt z.2.2.2.1 (m2 hs.1 (hPs x mx).1), Nat.lt_of_le_of_lt z.2.2.2.2 (m2 hs.2 (hPs x mx).2)⟩
    obtain ⟨g6, e6, r6⟩ := sum_ok (l := xs.map fun x => lowT (s.a * x.a) (s.b * x.b)) (by rw [List.length_map]; omega) hY
    refine Ok.bindE e6 (Ok.bindE i0 ?_)
    obtain ⟨g7, e7, r7⟩ := timesR (Rel.self (hX s hms).1) rg (up hs.1 (by decide)) (up hs.2 (by decide)) bN bD
    have sc := spread_cross (s := s) (t := fun x => lowT (s.a * x.a) (s.b * x.b)) xs fun x m => (lowT_of (a := s.a * x.a) (b := s.b * x.b) (by have := Int.mul_pos (hX s hms).1.1 (hX x m).1.1; omega)).2.2.1
    have r8 := r6.cast r7.2.1 sc
    refine Ok.bindE ((noErr_ok e7).trans (congrArg Res.ok (r7.uq r8))) (Ok.guard okF (Ok.iteF neF ?_))
    -- the floors
    refine Ok.bind2 (compR_map (g := fun x => x.a / x.b) (by omega) (fun x m => by rw [floor_eq (hX x m).1.1 (up (hPs x m).2 (by decide))]; rfl)) ?_
    have b0 := rg.b6 bN bD
    obtain ⟨f1, _, f3⟩ := floors xs fun x m => (hX x m).1.1
    have f4 := f3 (by omega)
    obtain ⟨⟨gb, _⟩, _, gr⟩ := rg
    refine Ok.bindE (floor_eq gb b0.2) ?_
    have k1 : (xs.map fun x => x.a / x.b).sum ≤ g0.a / g0.b := by
      refine (Int.le_ediv_iff_mul_le gb).mpr (Int.le_of_mul_le_mul_right ?_ hdx)
      rw [gr]
      have := Int.mul_le_mul_of_nonneg_right f1 (Int.le_of_lt gb)
      calc _ = _ := by grind
        _ ≤ _ := this
    have k2 : g0.a / g0.b < (xs.map fun x => x.a / x.b).sum + xs.length := by
      refine (Int.ediv_lt_iff_lt_mul gb).mpr (Int.lt_of_mul_lt_mul_right ?_ (Int.le_of_lt hdx))
      rw [gr]
      have := Int.mul_lt_mul_of_pos_right f4 gb
      calc _ < _ := this
        _ = _ := by grind
    exact Ok.iteT (decide_eq_true k1) (Ok.pure (decide_eq_true k2))
  obtain ⟨a, e, rfl⟩ := q
  exact e
end A

set_option Elab.async false
set_option linter.all false
set_option maxRecDepth 100000
set_option maxHeartbeats 4000000
namespace A
open PySem PySem.Spec PyProof.Rows L2 Y
open Y.Enc (enc)
theorem all_mk {l : PySem.W.OpenLaw} {w : World} {K : PySem.W.Frag} {h : Heap} {mg : Str → Option Value} {fa : Addr} (X : K.In h) (G : h.Ns mainGlobals mg) (hfa : mg "law" = some (.ref fa))
    {f_divisor : Addr} {od_divisor an_divisor : Option Addr} {sl_divisor : Array (Option Value)} {oc_divisor kV_divisor dc_divisor pm_divisor cd_divisor ct_divisor : Value}
    (a_divisor : PySem.W.nsIn K mainGlobals "divisor" = some (some (.ref f_divisor))) (l_divisor : K.lookup f_divisor = some ⟨oc_divisor, od_divisor, .func (PySem.W.fnOf "divisor" "divisor" (defArgs s_divisor) (defBody s_divisor) (defScope s_divisor) .none kV_divisor dc_divisor pm_divisor an_divisor cd_divisor ct_divisor), sl_divisor⟩) (c_divisor : PySem.W.codeIn K cd_divisor "divisor" = true) (k_divisor : PySem.W.keepIn K (.ref f_divisor) = true)
    {f_is_number : Addr} {od_is_number an_is_number : Option Addr} {sl_is_number : Array (Option Value)} {oc_is_number kV_is_number dc_is_number pm_is_number cd_is_number ct_is_number : Value}
    (a_is_number : PySem.W.nsIn K mainGlobals "is_number" = some (some (.ref f_is_number))) (l_is_number : K.lookup f_is_number = some ⟨oc_is_number, od_is_number, .func (PySem.W.fnOf "is_number" "is_number" (defArgs s_is_number) (defBody s_is_number) (defScope s_is_number) .none kV_is_number dc_is_number pm_is_number an_is_number cd_is_number ct_is_number), sl_is_number⟩) (c_is_number : PySem.W.codeIn K cd_is_number "is_number" = true) (k_is_number : PySem.W.keepIn K (.ref f_is_number) = true)
    {f_fraction : Addr} {od_fraction an_fraction : Option Addr} {sl_fraction : Array (Option Value)} {oc_fraction kV_fraction dc_fraction pm_fraction cd_fraction ct_fraction : Value} {T_fraction_ : Addr} {oT_fraction : Value} {dT_fraction : Option Addr} {nT_fraction : Nat} {sT_fraction : Array (Option Value)} {tk_fraction_bottom : Tok}
    (a_fraction : PySem.W.nsIn K mainGlobals "fraction" = some (some (.ref f_fraction))) (l_fraction : K.lookup f_fraction = some ⟨oc_fraction, od_fraction, .func (PySem.W.fnOf "fraction" "fraction" (defArgs s_fraction) (defBody s_fraction) (defScope s_fraction) (.ref T_fraction_) kV_fraction dc_fraction pm_fraction an_fraction cd_fraction ct_fraction), sl_fraction⟩) (c_fraction : PySem.W.codeIn K cd_fraction "fraction" = true) (k_fraction : PySem.W.keepIn K (.ref f_fraction) = true)
    (lT_fraction : K.lookup T_fraction_ = some ⟨oT_fraction, dT_fraction, .seq #[.int 1 tk_fraction_bottom] nT_fraction, sT_fraction⟩)
    {f_plus : Addr} {od_plus an_plus : Option Addr} {sl_plus : Array (Option Value)} {oc_plus kV_plus dc_plus pm_plus cd_plus ct_plus : Value}
    (a_plus : PySem.W.nsIn K mainGlobals "plus" = some (some (.ref f_plus))) (l_plus : K.lookup f_plus = some ⟨oc_plus, od_plus, .func (PySem.W.fnOf "plus" "plus" (defArgs s_plus) (defBody s_plus) (defScope s_plus) .none kV_plus dc_plus pm_plus an_plus cd_plus ct_plus), sl_plus⟩) (c_plus : PySem.W.codeIn K cd_plus "plus" = true) (k_plus : PySem.W.keepIn K (.ref f_plus) = true)
    {f_minus : Addr} {od_minus an_minus : Option Addr} {sl_minus : Array (Option Value)} {oc_minus kV_minus dc_minus pm_minus cd_minus ct_minus : Value}
    (a_minus : PySem.W.nsIn K mainGlobals "minus" = some (some (.ref f_minus))) (l_minus : K.lookup f_minus = some ⟨oc_minus, od_minus, .func (PySem.W.fnOf "minus" "minus" (defArgs s_minus) (defBody s_minus) (defScope s_minus) .none kV_minus dc_minus pm_minus an_minus cd_minus ct_minus), sl_minus⟩) (c_minus : PySem.W.codeIn K cd_minus "minus" = true) (k_minus : PySem.W.keepIn K (.ref f_minus) = true)
    {f_times : Addr} {od_times an_times : Option Addr} {sl_times : Array (Option Value)} {oc_times kV_times dc_times pm_times cd_times ct_times : Value}
    (a_times : PySem.W.nsIn K mainGlobals "times" = some (some (.ref f_times))) (l_times : K.lookup f_times = some ⟨oc_times, od_times, .func (PySem.W.fnOf "times" "times" (defArgs s_times) (defBody s_times) (defScope s_times) .none kV_times dc_times pm_times an_times cd_times ct_times), sl_times⟩) (c_times : PySem.W.codeIn K cd_times "times" = true) (k_times : PySem.W.keepIn K (.ref f_times) = true)
    {f_less : Addr} {od_less an_less : Option Addr} {sl_less : Array (Option Value)} {oc_less kV_less dc_less pm_less cd_less ct_less : Value}
    (a_less : PySem.W.nsIn K mainGlobals "less" = some (some (.ref f_less))) (l_less : K.lookup f_less = some ⟨oc_less, od_less, .func (PySem.W.fnOf "less" "less" (defArgs s_less) (defBody s_less) (defScope s_less) .none kV_less dc_less pm_less an_less cd_less ct_less), sl_less⟩) (c_less : PySem.W.codeIn K cd_less "less" = true) (k_less : PySem.W.keepIn K (.ref f_less) = true)
    {f_floor : Addr} {od_floor an_floor : Option Addr} {sl_floor : Array (Option Value)} {oc_floor kV_floor dc_floor pm_floor cd_floor ct_floor : Value}
    (a_floor : PySem.W.nsIn K mainGlobals "floor" = some (some (.ref f_floor))) (l_floor : K.lookup f_floor = some ⟨oc_floor, od_floor, .func (PySem.W.fnOf "floor" "floor" (defArgs s_floor) (defBody s_floor) (defScope s_floor) .none kV_floor dc_floor pm_floor an_floor cd_floor ct_floor), sl_floor⟩) (c_floor : PySem.W.codeIn K cd_floor "floor" = true) (k_floor : PySem.W.keepIn K (.ref f_floor) = true)
    {f__law_cell_at : Addr} {od__law_cell_at an__law_cell_at : Option Addr} {sl__law_cell_at : Array (Option Value)} {oc__law_cell_at kV__law_cell_at dc__law_cell_at pm__law_cell_at cd__law_cell_at ct__law_cell_at : Value}
    (a__law_cell_at : PySem.W.nsIn K mainGlobals "_law_cell_at" = some (some (.ref f__law_cell_at))) (l__law_cell_at : K.lookup f__law_cell_at = some ⟨oc__law_cell_at, od__law_cell_at, .func (PySem.W.fnOf "_law_cell_at" "_law_cell_at" (defArgs s__law_cell_at) (defBody s__law_cell_at) (defScope s__law_cell_at) .none kV__law_cell_at dc__law_cell_at pm__law_cell_at an__law_cell_at cd__law_cell_at ct__law_cell_at), sl__law_cell_at⟩) (c__law_cell_at : PySem.W.codeIn K cd__law_cell_at "_law_cell_at" = true) (k__law_cell_at : PySem.W.keepIn K (.ref f__law_cell_at) = true)
    {f__law_digit : Addr} {od__law_digit an__law_digit : Option Addr} {sl__law_digit : Array (Option Value)} {oc__law_digit kV__law_digit dc__law_digit pm__law_digit cd__law_digit ct__law_digit : Value}
    (a__law_digit : PySem.W.nsIn K mainGlobals "_law_digit" = some (some (.ref f__law_digit))) (l__law_digit : K.lookup f__law_digit = some ⟨oc__law_digit, od__law_digit, .func (PySem.W.fnOf "_law_digit" "_law_digit" (defArgs s__law_digit) (defBody s__law_digit) (defScope s__law_digit) .none kV__law_digit dc__law_digit pm__law_digit an__law_digit cd__law_digit ct__law_digit), sl__law_digit⟩) (c__law_digit : PySem.W.codeIn K cd__law_digit "_law_digit" = true) (k__law_digit : PySem.W.keepIn K (.ref f__law_digit) = true)
    {f__law_drawn : Addr} {od__law_drawn an__law_drawn : Option Addr} {sl__law_drawn : Array (Option Value)} {oc__law_drawn kV__law_drawn dc__law_drawn pm__law_drawn cd__law_drawn ct__law_drawn : Value}
    (a__law_drawn : PySem.W.nsIn K mainGlobals "_law_drawn" = some (some (.ref f__law_drawn))) (l__law_drawn : K.lookup f__law_drawn = some ⟨oc__law_drawn, od__law_drawn, .func (PySem.W.fnOf "_law_drawn" "_law_drawn" (defArgs s__law_drawn) (defBody s__law_drawn) (defScope s__law_drawn) .none kV__law_drawn dc__law_drawn pm__law_drawn an__law_drawn cd__law_drawn ct__law_drawn), sl__law_drawn⟩) (c__law_drawn : PySem.W.codeIn K cd__law_drawn "_law_drawn" = true) (k__law_drawn : PySem.W.keepIn K (.ref f__law_drawn) = true)
    {f__law_mixed : Addr} {od__law_mixed an__law_mixed : Option Addr} {sl__law_mixed : Array (Option Value)} {oc__law_mixed kV__law_mixed dc__law_mixed pm__law_mixed cd__law_mixed ct__law_mixed : Value}
    (a__law_mixed : PySem.W.nsIn K mainGlobals "_law_mixed" = some (some (.ref f__law_mixed))) (l__law_mixed : K.lookup f__law_mixed = some ⟨oc__law_mixed, od__law_mixed, .func (PySem.W.fnOf "_law_mixed" "_law_mixed" (defArgs s__law_mixed) (defBody s__law_mixed) (defScope s__law_mixed) .none kV__law_mixed dc__law_mixed pm__law_mixed an__law_mixed cd__law_mixed ct__law_mixed), sl__law_mixed⟩) (c__law_mixed : PySem.W.codeIn K cd__law_mixed "_law_mixed" = true) (k__law_mixed : PySem.W.keepIn K (.ref f__law_mixed) = true)
    {f__law_sum : Addr} {od__law_sum an__law_sum : Option Addr} {sl__law_sum : Array (Option Value)} {oc__law_sum kV__law_sum dc__law_sum pm__law_sum cd__law_sum ct__law_sum : Value}
    (a__law_sum : PySem.W.nsIn K mainGlobals "_law_sum" = some (some (.ref f__law_sum))) (l__law_sum : K.lookup f__law_sum = some ⟨oc__law_sum, od__law_sum, .func (PySem.W.fnOf "_law_sum" "_law_sum" (defArgs s__law_sum) (defBody s__law_sum) (defScope s__law_sum) .none kV__law_sum dc__law_sum pm__law_sum an__law_sum cd__law_sum ct__law_sum), sl__law_sum⟩) (c__law_sum : PySem.W.codeIn K cd__law_sum "_law_sum" = true) (k__law_sum : PySem.W.keepIn K (.ref f__law_sum) = true)
    {f__law_product : Addr} {od__law_product an__law_product : Option Addr} {sl__law_product : Array (Option Value)} {oc__law_product kV__law_product dc__law_product pm__law_product cd__law_product ct__law_product : Value}
    (a__law_product : PySem.W.nsIn K mainGlobals "_law_product" = some (some (.ref f__law_product))) (l__law_product : K.lookup f__law_product = some ⟨oc__law_product, od__law_product, .func (PySem.W.fnOf "_law_product" "_law_product" (defArgs s__law_product) (defBody s__law_product) (defScope s__law_product) .none kV__law_product dc__law_product pm__law_product an__law_product cd__law_product ct__law_product), sl__law_product⟩) (c__law_product : PySem.W.codeIn K cd__law_product "_law_product" = true) (k__law_product : PySem.W.keepIn K (.ref f__law_product) = true)
    {f__law_worth : Addr} {od__law_worth an__law_worth : Option Addr} {sl__law_worth : Array (Option Value)} {oc__law_worth kV__law_worth dc__law_worth pm__law_worth cd__law_worth ct__law_worth : Value}
    (a__law_worth : PySem.W.nsIn K mainGlobals "_law_worth" = some (some (.ref f__law_worth))) (l__law_worth : K.lookup f__law_worth = some ⟨oc__law_worth, od__law_worth, .func (PySem.W.fnOf "_law_worth" "_law_worth" (defArgs s__law_worth) (defBody s__law_worth) (defScope s__law_worth) .none kV__law_worth dc__law_worth pm__law_worth an__law_worth cd__law_worth ct__law_worth), sl__law_worth⟩) (c__law_worth : PySem.W.codeIn K cd__law_worth "_law_worth" = true) (k__law_worth : PySem.W.keepIn K (.ref f__law_worth) = true)
    {f__law_lowest : Addr} {od__law_lowest an__law_lowest : Option Addr} {sl__law_lowest : Array (Option Value)} {oc__law_lowest kV__law_lowest dc__law_lowest pm__law_lowest cd__law_lowest ct__law_lowest : Value}
    (a__law_lowest : PySem.W.nsIn K mainGlobals "_law_lowest" = some (some (.ref f__law_lowest))) (l__law_lowest : K.lookup f__law_lowest = some ⟨oc__law_lowest, od__law_lowest, .func (PySem.W.fnOf "_law_lowest" "_law_lowest" (defArgs s__law_lowest) (defBody s__law_lowest) (defScope s__law_lowest) .none kV__law_lowest dc__law_lowest pm__law_lowest an__law_lowest cd__law_lowest ct__law_lowest), sl__law_lowest⟩) (c__law_lowest : PySem.W.codeIn K cd__law_lowest "_law_lowest" = true) (k__law_lowest : PySem.W.keepIn K (.ref f__law_lowest) = true)
    {f__law_order_right : Addr} {od__law_order_right an__law_order_right : Option Addr} {sl__law_order_right : Array (Option Value)} {oc__law_order_right kV__law_order_right dc__law_order_right pm__law_order_right cd__law_order_right ct__law_order_right : Value}
    (a__law_order_right : PySem.W.nsIn K mainGlobals "_law_order_right" = some (some (.ref f__law_order_right))) (l__law_order_right : K.lookup f__law_order_right = some ⟨oc__law_order_right, od__law_order_right, .func (PySem.W.fnOf "_law_order_right" "_law_order_right" (defArgs s__law_order_right) (defBody s__law_order_right) (defScope s__law_order_right) .none kV__law_order_right dc__law_order_right pm__law_order_right an__law_order_right cd__law_order_right ct__law_order_right), sl__law_order_right⟩) (c__law_order_right : PySem.W.codeIn K cd__law_order_right "_law_order_right" = true) (k__law_order_right : PySem.W.keepIn K (.ref f__law_order_right) = true)
    {f_law : Addr} {od_law an_law : Option Addr} {sl_law : Array (Option Value)} {oc_law kV_law dc_law pm_law cd_law ct_law : Value}
    (a_law : PySem.W.nsIn K mainGlobals "law" = some (some (.ref f_law))) (l_law : K.lookup f_law = some ⟨oc_law, od_law, .func (PySem.W.fnOf "law" "law" (defArgs s_law) (defBody s_law) (defScope s_law) .none kV_law dc_law pm_law an_law cd_law ct_law), sl_law⟩) (c_law : PySem.W.codeIn K cd_law "law" = true) (k_law : PySem.W.keepIn K (.ref f_law) = true)
    {C_NoFraction : Addr}
    (xca_NoFraction : PySem.W.nsIn K mainGlobals "NoFraction" = some (some (.ref C_NoFraction)))
    (xchg_NoFraction : PySem.W.findIn K (.ref C_NoFraction) "__getattribute__" = some (some (.builtin "BaseException.__getattribute__")))
    (xchk_NoFraction : PySem.W.findIn K (.ref C_NoFraction) "__getattr__" = some none)
    (xchs_NoFraction : PySem.W.subIn K (.ref C_NoFraction) (.type "BaseException") = some true)
    (xchd_NoFraction : PySem.W.hasDictIn K C_NoFraction = true)
    (xcha_NoFraction : PySem.W.findIn K (.ref C_NoFraction) "__class__" = some (some (.builtin "object.__class__")))
    (xchm_NoFraction : PySem.W.mroIn K C_NoFraction (.type "object") = some true)
    (xcty_NoFraction : PySem.W.typeIn K (.ref C_NoFraction) = some (.type "type"))
    (xckp_NoFraction : PySem.W.keepIn K (.ref C_NoFraction) = true)
    (xcve_NoFraction : PySem.W.subIn K (.ref C_NoFraction) (.type "ValueError") = some true)
    (xcis_NoFraction : PySem.W.isClsIn K C_NoFraction = true)
    (xcself_NoFraction : PySem.W.subIn K (.ref C_NoFraction) (.ref C_NoFraction) = some true)
    (xcex_NoFraction : PySem.W.excIn K C_NoFraction [.type "ValueError", .type "Exception", .type "BaseException", .type "object"] "ValueError.__new__" = true)
    (xhn : PySem.W.specialIn K (.builtin "object.__class__") "__get__" = some (some (.builtin "getset_descriptor.__get__"))) (xht : PySem.W.takesIn K (.builtin "object.__class__") = some true)
    (z_abs : PySem.W.nsIn K mainGlobals "abs" = some none)
    (z_isinstance : PySem.W.nsIn K mainGlobals "isinstance" = some none)
    (z_int : PySem.W.nsIn K mainGlobals "int" = some none)
    (z_bool : PySem.W.nsIn K mainGlobals "bool" = some none)
    (z_len : PySem.W.nsIn K mainGlobals "len" = some none)
    (z_list : PySem.W.nsIn K mainGlobals "list" = some none)
    (z_sum : PySem.W.nsIn K mainGlobals "sum" = some none)
    : ∃ fd : FuncData, (∀ (s : Shared) (v : Value), BindsTo s fd ⟨[v], []⟩ [("_law_script", v)]) ∧ ∀ base : Heap, K.In base → base.Ns mainGlobals mg → FnOk l.prog w K mg base CX0 5 fa fd ["_law_script"] (spTop K) := by
  have e := hfa.symm.trans (PySem.W.mg_of X G a_law)
  cases e
  have F_divisor := fun_mk (st := s_divisor) l_divisor c_divisor k_divisor
  have b_divisor := F_divisor.binds (ps := ["one", "other"]) fun _ _ _ _ _ _ us hl => match us, hl with | [_, _], _ => rfl
  have g_divisor := PySem.W.mg_of X G a_divisor
  have F_is_number := fun_mk (st := s_is_number) l_is_number c_is_number k_is_number
  have b_is_number := F_is_number.binds (ps := ["thing"]) fun _ _ _ _ _ _ us hl => match us, hl with | [_], _ => rfl
  have g_is_number := PySem.W.mg_of X G a_is_number
  have F_fraction := funV_mk (st := s_fraction) (dv := [.int 1 tk_fraction_bottom]) l_fraction c_fraction k_fraction lT_fraction
  have b_fraction := (F_fraction.binds (ps := ["top", "bottom"]) 2 1 rfl (fun _ _ _ _ _ _ _ us hl => match us, hl with | [_, _], _ => ⟨_, rfl, rfl⟩) : L2.Binds K _ ["top", "bottom"] [])
  have g_fraction := PySem.W.mg_of X G a_fraction
  have F_plus := fun_mk (st := s_plus) l_plus c_plus k_plus
  have b_plus := F_plus.binds (ps := ["one", "other"]) fun _ _ _ _ _ _ us hl => match us, hl with | [_, _], _ => rfl
  have g_plus := PySem.W.mg_of X G a_plus
  have F_minus := fun_mk (st := s_minus) l_minus c_minus k_minus
  have b_minus := F_minus.binds (ps := ["one", "other"]) fun _ _ _ _ _ _ us hl => match us, hl with | [_, _], _ => rfl
  have g_minus := PySem.W.mg_of X G a_minus
  have F_times := fun_mk (st := s_times) l_times c_times k_times
  have b_times := F_times.binds (ps := ["one", "other"]) fun _ _ _ _ _ _ us hl => match us, hl with | [_, _], _ => rfl
  have g_times := PySem.W.mg_of X G a_times
  have F_less := fun_mk (st := s_less) l_less c_less k_less
  have b_less := F_less.binds (ps := ["one", "other"]) fun _ _ _ _ _ _ us hl => match us, hl with | [_, _], _ => rfl
  have g_less := PySem.W.mg_of X G a_less
  have F_floor := fun_mk (st := s_floor) l_floor c_floor k_floor
  have b_floor := F_floor.binds (ps := ["one"]) fun _ _ _ _ _ _ us hl => match us, hl with | [_], _ => rfl
  have g_floor := PySem.W.mg_of X G a_floor
  have F__law_cell_at := fun_mk (st := s__law_cell_at) l__law_cell_at c__law_cell_at k__law_cell_at
  have b__law_cell_at := F__law_cell_at.binds (ps := ["_law_script", "_law_k"]) fun _ _ _ _ _ _ us hl => match us, hl with | [_, _], _ => rfl
  have g__law_cell_at := PySem.W.mg_of X G a__law_cell_at
  have F__law_digit := fun_mk (st := s__law_digit) l__law_digit c__law_digit k__law_digit
  have b__law_digit := F__law_digit.binds (ps := ["_law_state", "_law_base"]) fun _ _ _ _ _ _ us hl => match us, hl with | [_, _], _ => rfl
  have g__law_digit := PySem.W.mg_of X G a__law_digit
  have F__law_drawn := fun_mk (st := s__law_drawn) l__law_drawn c__law_drawn k__law_drawn
  have b__law_drawn := F__law_drawn.binds (ps := ["_law_state", "_law_ahead"]) fun _ _ _ _ _ _ us hl => match us, hl with | [_, _], _ => rfl
  have g__law_drawn := PySem.W.mg_of X G a__law_drawn
  have F__law_mixed := fun_mk (st := s__law_mixed) l__law_mixed c__law_mixed k__law_mixed
  have b__law_mixed := F__law_mixed.binds (ps := ["_law_state", "_law_things"]) fun _ _ _ _ _ _ us hl => match us, hl with | [_, _], _ => rfl
  have g__law_mixed := PySem.W.mg_of X G a__law_mixed
  have F__law_sum := fun_mk (st := s__law_sum) l__law_sum c__law_sum k__law_sum
  have b__law_sum := F__law_sum.binds (ps := ["_law_some"]) fun _ _ _ _ _ _ us hl => match us, hl with | [_], _ => rfl
  have g__law_sum := PySem.W.mg_of X G a__law_sum
  have F__law_product := fun_mk (st := s__law_product) l__law_product c__law_product k__law_product
  have b__law_product := F__law_product.binds (ps := ["_law_some"]) fun _ _ _ _ _ _ us hl => match us, hl with | [_], _ => rfl
  have g__law_product := PySem.W.mg_of X G a__law_product
  have F__law_worth := fun_mk (st := s__law_worth) l__law_worth c__law_worth k__law_worth
  have b__law_worth := F__law_worth.binds (ps := ["_law_pairs"]) fun _ _ _ _ _ _ us hl => match us, hl with | [_], _ => rfl
  have g__law_worth := PySem.W.mg_of X G a__law_worth
  have F__law_lowest := fun_mk (st := s__law_lowest) l__law_lowest c__law_lowest k__law_lowest
  have b__law_lowest := F__law_lowest.binds (ps := ["_law_top", "_law_bottom"]) fun _ _ _ _ _ _ us hl => match us, hl with | [_, _], _ => rfl
  have g__law_lowest := PySem.W.mg_of X G a__law_lowest
  have F__law_order_right := fun_mk (st := s__law_order_right) l__law_order_right c__law_order_right k__law_order_right
  have b__law_order_right := F__law_order_right.binds (ps := ["_law_some"]) fun _ _ _ _ _ _ us hl => match us, hl with | [_], _ => rfl
  have g__law_order_right := PySem.W.mg_of X G a__law_order_right
  have F_law := fun_mk (st := s_law) l_law c_law k_law
  have b_law := F_law.binds (ps := ["_law_script"]) fun _ _ _ _ _ _ us hl => match us, hl with | [_], _ => rfl
  have g_law := PySem.W.mg_of X G a_law
  have T_NoFraction : ExcR K mg "NoFraction" C_NoFraction := ⟨⟨PySem.W.mg_of X G xca_NoFraction, ⟨xchg_NoFraction, xchk_NoFraction, xchs_NoFraction, xchd_NoFraction, xcha_NoFraction, xhn, xht, xchm_NoFraction⟩, xcty_NoFraction, xckp_NoFraction, xcve_NoFraction, xcis_NoFraction, xcself_NoFraction⟩, xcex_NoFraction⟩
  have bI_abs := PySem.W.mg_none_of X G z_abs
  have bI_isinstance := PySem.W.mg_none_of X G z_isinstance
  have bI_int := PySem.W.mg_none_of X G z_int
  have bI_bool := PySem.W.mg_none_of X G z_bool
  have bI_len := PySem.W.mg_none_of X G z_len
  have bI_list := PySem.W.mg_none_of X G z_list
  have bI_sum := PySem.W.mg_none_of X G z_sum
  refine ⟨_, fun s v => (.of_eq rfl : BindsTo s (PySem.W.fnOf "law" "law" (defArgs s_law) (defBody s_law) (defScope s_law) .none kV_law dc_law pm_law an_law cd_law ct_law) ⟨[v], []⟩ [("_law_script", v)]), fun base _ _ => ?_⟩
  have G_divisor := ok_divisor (Pr := l.prog) (wo := w) (base := base) (mg := mg) F_divisor bI_abs
  have G_is_number := ok_is_number (Pr := l.prog) (wo := w) (base := base) (mg := mg) F_is_number bI_isinstance bI_int bI_bool
  have G_less := ok_less (Pr := l.prog) (wo := w) (base := base) (mg := mg) F_less
  have G_floor := ok_floor (Pr := l.prog) (wo := w) (base := base) (mg := mg) F_floor
  have G__law_cell_at := ok__law_cell_at (Pr := l.prog) (wo := w) (base := base) (mg := mg) F__law_cell_at bI_len
  have G__law_digit := ok__law_digit (Pr := l.prog) (wo := w) (base := base) (mg := mg) F__law_digit bI_len
  have G__law_worth := ok__law_worth (Pr := l.prog) (wo := w) (base := base) (mg := mg) F__law_worth bI_sum
  have G__law_lowest := ok__law_lowest (Pr := l.prog) (wo := w) (base := base) (mg := mg) F__law_lowest bI_abs
  have G_fraction := ok_fraction (Pr := l.prog) (wo := w) (base := base) (mg := mg) F_fraction T_NoFraction g_divisor k_divisor b_divisor G_divisor g_is_number k_is_number b_is_number G_is_number
  have G__law_drawn := ok__law_drawn (Pr := l.prog) (wo := w) (base := base) (mg := mg) F__law_drawn g__law_digit k__law_digit b__law_digit G__law_digit bI_int bI_len
  have G__law_mixed := ok__law_mixed (Pr := l.prog) (wo := w) (base := base) (mg := mg) F__law_mixed g__law_digit k__law_digit b__law_digit G__law_digit bI_list bI_len
  have G_plus := ok_plus (Pr := l.prog) (wo := w) (base := base) (mg := mg) F_plus g_fraction k_fraction b_fraction G_fraction
  have G_minus := ok_minus (Pr := l.prog) (wo := w) (base := base) (mg := mg) F_minus g_fraction k_fraction b_fraction G_fraction
  have G_times := ok_times (Pr := l.prog) (wo := w) (base := base) (mg := mg) F_times g_fraction k_fraction b_fraction G_fraction
  have G__law_sum := ok__law_sum (Pr := l.prog) (wo := w) (base := base) (mg := mg) F__law_sum g_plus k_plus b_plus G_plus
  have G__law_product := ok__law_product (Pr := l.prog) (wo := w) (base := base) (mg := mg) F__law_product g_times k_times b_times G_times
  have G__law_order_right := ok__law_order_right (Pr := l.prog) (wo := w) (base := base) (mg := mg) F__law_order_right g_less k_less b_less G_less g_minus k_minus b_minus G_minus
  have G_law := ok_law (Pr := l.prog) (wo := w) (base := base) (mg := mg) F_law g__law_worth k__law_worth b__law_worth G__law_worth g__law_digit k__law_digit b__law_digit G__law_digit g__law_sum k__law_sum b__law_sum G__law_sum g__law_product k__law_product b__law_product G__law_product g_fraction k_fraction b_fraction G_fraction g__law_lowest k__law_lowest b__law_lowest G__law_lowest g_times k_times b_times G_times g_floor k_floor b_floor G_floor g__law_drawn k__law_drawn b__law_drawn G__law_drawn g__law_cell_at k__law_cell_at b__law_cell_at G__law_cell_at g_plus k_plus b_plus G_plus g__law_order_right k__law_order_right b__law_order_right G__law_order_right g__law_mixed k__law_mixed b__law_mixed G__law_mixed bI_sum bI_len
  exact G_law.imp fun vs H Q E h => top_of law_ok h
end A
open PySem PySem.W PyProof.Rows
set_option maxRecDepth 100000 in
set_option maxHeartbeats 0 in
theorem PySem.Challenge.cw_lanescroll_k10_whole_fractions_in_any_or_holds : PySem.Challenge.rw_lanescroll_k10_whole_fractions_in_any_or.Holds := by
  w_on; o_law; k_head; (case hw => w_witness2)
  k_fill
  refine Y.walk_top (l := PySem.Challenge.rw_lanescroll_k10_whole_fractions_in_any_or) (k := 5) (x := "_law_script") rfl rfl ⟨rfl, by decide, by decide⟩ (fun w h Y => PySem.W.kIn_of Y) ?F
  case F =>
    intro w mg fa h KX G hmg
    refine' A.all_mk KX G hmg ?a_divisor ?l_divisor ?c_divisor ?k_divisor ?a_is_number ?l_is_number ?c_is_number ?k_is_number ?a_fraction ?l_fraction ?c_fraction ?k_fraction ?lT_fraction ?a_plus ?l_plus ?c_plus ?k_plus ?a_minus ?l_minus ?c_minus ?k_minus ?a_times ?l_times ?c_times ?k_times ?a_less ?l_less ?c_less ?k_less ?a_floor ?l_floor ?c_floor ?k_floor ?a__law_cell_at ?l__law_cell_at ?c__law_cell_at ?k__law_cell_at ?a__law_digit ?l__law_digit ?c__law_digit ?k__law_digit ?a__law_drawn ?l__law_drawn ?c__law_drawn ?k__law_drawn ?a__law_mixed ?l__law_mixed ?c__law_mixed ?k__law_mixed ?a__law_sum ?l__law_sum ?c__law_sum ?k__law_sum ?a__law_product ?l__law_product ?c__law_product ?k__law_product ?a__law_worth ?l__law_worth ?c__law_worth ?k__law_worth ?a__law_lowest ?l__law_lowest ?c__law_lowest ?k__law_lowest ?a__law_order_right ?l__law_order_right ?c__law_order_right ?k__law_order_right ?a_law ?l_law ?c_law ?k_law ?xca_NoFraction ?xchg_NoFraction ?xchk_NoFraction ?xchs_NoFraction ?xchd_NoFraction ?xcha_NoFraction ?xchm_NoFraction ?xcty_NoFraction ?xckp_NoFraction ?xcve_NoFraction ?xcis_NoFraction ?xcself_NoFraction ?xcex_NoFraction ?xhn ?xht ?z_abs ?z_isinstance ?z_int ?z_bool ?z_len ?z_list ?z_sum
    (case a_divisor => k_is)
    (case l_divisor => k_is)
    (case c_divisor => k_is)
    (case k_divisor => k_is)
    (case a_is_number => k_is)
    (case l_is_number => k_is)
    (case c_is_number => k_is)
    (case k_is_number => k_is)
    (case a_fraction => k_is)
    (case l_fraction => k_is)
    (case c_fraction => k_is)
    (case k_fraction => k_is)
    (case lT_fraction => k_is)
    (case a_plus => k_is)
    (case l_plus => k_is)
    (case c_plus => k_is)
    (case k_plus => k_is)
    (case a_minus => k_is)
    (case l_minus => k_is)
    (case c_minus => k_is)
    (case k_minus => k_is)
    (case a_times => k_is)
    (case l_times => k_is)
    (case c_times => k_is)
    (case k_times => k_is)
    (case a_less => k_is)
    (case l_less => k_is)
    (case c_less => k_is)
    (case k_less => k_is)
    (case a_floor => k_is)
    (case l_floor => k_is)
    (case c_floor => k_is)
    (case k_floor => k_is)
    (case a__law_cell_at => k_is)
    (case l__law_cell_at => k_is)
    (case c__law_cell_at => k_is)
    (case k__law_cell_at => k_is)
    (case a__law_digit => k_is)
    (case l__law_digit => k_is)
    (case c__law_digit => k_is)
    (case k__law_digit => k_is)
    (case a__law_drawn => k_is)
    (case l__law_drawn => k_is)
    (case c__law_drawn => k_is)
    (case k__law_drawn => k_is)
    (case a__law_mixed => k_is)
    (case l__law_mixed => k_is)
    (case c__law_mixed => k_is)
    (case k__law_mixed => k_is)
    (case a__law_sum => k_is)
    (case l__law_sum => k_is)
    (case c__law_sum => k_is)
    (case k__law_sum => k_is)
    (case a__law_product => k_is)
    (case l__law_product => k_is)
    (case c__law_product => k_is)
    (case k__law_product => k_is)
    (case a__law_worth => k_is)
    (case l__law_worth => k_is)
    (case c__law_worth => k_is)
    (case k__law_worth => k_is)
    (case a__law_lowest => k_is)
    (case l__law_lowest => k_is)
    (case c__law_lowest => k_is)
    (case k__law_lowest => k_is)
    (case a__law_order_right => k_is)
    (case l__law_order_right => k_is)
    (case c__law_order_right => k_is)
    (case k__law_order_right => k_is)
    (case a_law => k_is)
    (case l_law => k_is)
    (case c_law => k_is)
    (case k_law => k_is)
    (case xca_NoFraction => k_is)
    (case xchg_NoFraction => k_is)
    (case xchk_NoFraction => k_is)
    (case xchs_NoFraction => k_is)
    (case xchd_NoFraction => k_is)
    (case xcha_NoFraction => k_is)
    (case xchm_NoFraction => k_is)
    (case xcty_NoFraction => k_is)
    (case xckp_NoFraction => k_is)
    (case xcve_NoFraction => k_is)
    (case xcis_NoFraction => k_is)
    (case xcself_NoFraction => k_is)
    (case xcex_NoFraction => k_exc)
    (case xhn => k_is)
    (case xht => k_is)
    (case z_abs => k_is)
    (case z_isinstance => k_is)
    (case z_int => k_is)
    (case z_bool => k_is)
    (case z_len => k_is)
    (case z_list => k_is)
    (case z_sum => k_is)
