import PyProof.Rows.All
import Wide.All
import OpenK.AllK
import Wide.FinOn
import HandS.ForMost
import HandS.Evl
import HandS.IsInst
import HandS.Flow
import HandS.Defaults
import HandS.Wide
import HandS.WideMore
import HandS.Style
import HandS.ForExc
import HandS.TryOnly
import HandS.CallSlots
import HandS.ExcIs
import HandS.Walk
import HandS.Iter
import HandS.More
import HandS.TryMany
import PySem.Challenge.RW_lanescroll_k15_edits_over_edits
set_option Elab.async false
set_option linter.all false
set_option maxRecDepth 100000
set_option maxHeartbeats 2000000
namespace Y
open PySem PySem.Spec PyProof.Rows
open L2

/-- data: what a value stands for, through the heap -/
inductive D where
  | non | bl (b : Bool) | int (i : Int) | str (x : Str)
  | lst (ds : List D) | tup (ds : List D) | dic (kvs : List (Key × D))

abbrev Ex (H H' : Hp) : Prop := ∀ a o, H a = some o → H' a = some o
theorem Ex.refl (H : Hp) : Ex H H := fun _ _ h => h
theorem Ex.trans {H H1 H2 : Hp} (a : Ex H H1) (b : Ex H1 H2) : Ex H H2 := fun x o h => b x o (a x o h)
theorem Ex.new {H : Hp} {p : Addr} {o : HO} (h : H p = none) : Ex H (upd H p o) := fun a u e => by
  rw [upd_ne (ne_of_none e h)]
  exact e
theorem Ex.upd {B H : Hp} {p : Addr} {o : HO} (e : Ex B H) (h : B p = none) : Ex B (upd H p o) := fun a u ha => by
  rw [upd_ne (ne_of_none ha h)]
  exact e a u ha
theorem Ex.both {B H : Hp} {p : Addr} {o : HO} (e : Ex B H) : Ex (L2.upd B p o) (L2.upd H p o) := fun a u ha => by
  by_cases q : a = p
  · subst q; rw [upd_same] at ha; cases ha; exact upd_same
  · rw [upd_ne q] at ha; rw [upd_ne q]; exact e a u ha
theorem Ex.none {H H' : Hp} {p : Addr} (e : Ex H H') (h : H' p = none) : H p = none := by
  cases h1 : H p with
  | none => rfl
  | some o => rw [e p o h1] at h; cases h
theorem Ex.rd {H H' : Hp} {a : Addr} {u : HO} (e : Ex H H') (h : Rd H a u) : Rd H' a u := by
  rcases h with h | ⟨o, h⟩
  · exact Or.inl (e a _ h)
  · exact Or.inr ⟨o, e a _ h⟩
theorem Ex.l {K : PySem.W.Frag} {H H' : Hp} {a : Addr} {xs : List V} (e : Ex H H') (h : SqL K H a xs) : SqL K H' a xs := by
  rcases h with h | h
  · exact Or.inl (e.rd h)
  · exact Or.inr h
theorem Ex.t {K : PySem.W.Frag} {H H' : Hp} {a : Addr} {xs : List V} (e : Ex H H') (h : SqT K H a xs) : SqT K H' a xs := by
  rcases h with h | h
  · exact Or.inl (e.rd h)
  · exact Or.inr h

mutual
/-- v stands for d -/
inductive Rep (K : PySem.W.Frag) (B : Hp) : V → D → Prop where
  | non : Rep K B .non .non
  | bl (b : Bool) : Rep K B (.bl b) (.bl b)
  | int (i : Int) : Rep K B (.int i) (.int i)
  | str (x : Str) : Rep K B (.str x) (.str x)
  | lst {p : Addr} {xs : List V} {ds : List D} (h : SqL K B p xs) (r : RepL K B xs ds) : Rep K B (.ref p) (.lst ds)
  | tup {p : Addr} {xs : List V} {ds : List D} (h : SqT K B p xs) (r : RepL K B xs ds) : Rep K B (.ref p) (.tup ds)
  | dic {p : Addr} {kvs : List (Key × V)} {ds : List (Key × D)} (h : B p = some (.dK kvs)) (r : RepK K B kvs ds) : Rep K B (.ref p) (.dic ds)
inductive RepL (K : PySem.W.Frag) (B : Hp) : List V → List D → Prop where
  | nil : RepL K B [] []
  | cons {v : V} {d : D} {vs : List V} {ds : List D} (h : Rep K B v d) (t : RepL K B vs ds) : RepL K B (v :: vs) (d :: ds)
inductive RepK (K : PySem.W.Frag) (B : Hp) : List (Key × V) → List (Key × D) → Prop where
  | nil : RepK K B [] []
  | cons {k : Key} {v : V} {d : D} {vs : List (Key × V)} {ds : List (Key × D)} (h : Rep K B v d) (t : RepK K B vs ds) : RepK K B ((k, v) :: vs) ((k, d) :: ds)
end
section
variable {K : PySem.W.Frag} {B B' H : Hp}
mutual
theorem Rep.mono (e : Ex B B') : ∀ {v : V} {d : D}, Rep K B v d → Rep K B' v d
  | _, _, .non => .non
  | _, _, .bl b => .bl b
  | _, _, .int i => .int i
  | _, _, .str x => .str x
  | _, _, .lst h r => .lst (e.l h) (RepL.mono e r)
  | _, _, .tup h r => .tup (e.t h) (RepL.mono e r)
  | _, _, .dic h r => .dic (e _ _ h) (RepK.mono e r)
theorem RepL.mono (e : Ex B B') : ∀ {vs : List V} {ds : List D}, RepL K B vs ds → RepL K B' vs ds
  | _, _, .nil => .nil
  | _, _, .cons h t => .cons (Rep.mono e h) (RepL.mono e t)
theorem RepK.mono (e : Ex B B') : ∀ {vs : List (Key × V)} {ds : List (Key × D)}, RepK K B vs ds → RepK K B' vs ds
  | _, _, .nil => .nil
  | _, _, .cons h t => .cons (Rep.mono e h) (RepK.mono e t)
end
theorem RepL.length : ∀ {vs : List V} {ds : List D}, RepL K B vs ds → vs.length = ds.length
  | _, _, .nil => rfl
  | _, _, .cons _ t => congrArg Nat.succ (RepL.length t)
theorem RepL.get : ∀ {vs : List V} {ds : List D} {i : Nat} {d : D}, RepL K B vs ds → ds[i]? = some d → ∃ v, vs[i]? = some v ∧ Rep K B v d
  | _, _, _, _, .nil, e => by simp at e
  | _, _, 0, _, .cons r _, e => by simp at e; subst e; exact ⟨_, rfl, r⟩
  | _, _, i + 1, x, .cons _ t, e => by
    obtain ⟨u, h1, h2⟩ := RepL.get (i := i) (d := x) t (by simpa using e)
    exact ⟨u, by simpa using h1, h2⟩
theorem RepL.append : ∀ {vs ws : List V} {ds es : List D}, RepL K B vs ds → RepL K B ws es → RepL K B (vs ++ ws) (ds ++ es)
  | _, _, _, _, .nil, s => s
  | _, _, _, _, .cons r t, s => .cons r (RepL.append t s)
theorem RepL.at {vs : List V} {ds : List D} {i : Int} {d : D} (r : RepL K B vs ds) (h : atI ds i = some d) : ∃ v, atI vs i = some v ∧ Rep K B v d := by
  unfold atI at h ⊢
  rw [r.length]
  cases e : ixN ds.length i with
  | none => rw [e] at h; cases h
  | some j => rw [e] at h; exact r.get h
theorem RepL.ints : ∀ (ns : List Int), RepL K B (ns.map V.int) (ns.map D.int)
  | [] => .nil
  | n :: r => .cons (.int n) (RepL.ints r)
theorem RepL.of_ints : ∀ {vs : List V} {ns : List Int}, RepL K B vs (ns.map D.int) → vs = ns.map V.int
  | [], [], _ => rfl
  | _ :: _, [], r => nomatch r
  | [], _ :: _, r => nomatch r
  | v :: vs, n :: ns, r => by
    cases r with
    | cons h t =>
      cases h
      rw [RepL.of_ints t]
      rfl
end

/-- from (B, H), what is known and the heap, to (B', H'), writing at most at W -/
structure Stp (W : List Addr) (B H B' H' : Hp) : Prop where
  ex : Ex B B'
  ok : Ex B' H'
  fr : ∀ a o, a ∉ W → H a = some o → H' a = some o
  al : ∀ a o, H a = some o → ∃ o', H' a = some o'
  nw : ∀ a o, B a = none → H a = some o → B' a = none
section
variable {W W' : List Addr} {B H B' H' B1 H1 B2 H2 : Hp} {p : Addr} {o : HO}
theorem Stp.refl (w : Ex B H) : Stp W B H B H := ⟨Ex.refl B, w, fun _ _ _ h => h, fun _ o h => ⟨o, h⟩, fun _ _ h _ => h⟩
theorem Stp.trans (a : Stp W B H B1 H1) (b : Stp W B1 H1 B2 H2) : Stp W B H B2 H2 :=
  ⟨a.ex.trans b.ex, b.ok, fun x o hx h => b.fr x o hx (a.fr x o hx h), fun x o h => let ⟨o1, h1⟩ := a.al x o h; b.al x o1 h1, fun x o hb h => let ⟨o1, h1⟩ := a.al x o h; b.nw x o1 (a.nw x o hb h) h1⟩
theorem Stp.w (a : Stp W B H B1 H1) (h : ∀ x, x ∈ W → x ∈ W') : Stp W' B H B1 H1 := ⟨a.ex, a.ok, fun x o hx e => a.fr x o (fun z => hx (h x z)) e, a.al, a.nw⟩
theorem Stp.w0 (a : Stp [] B H B1 H1) : Stp W B H B1 H1 := a.w fun _ h => nomatch h
/-- a new object that stays -/
theorem Stp.new (w : Ex B H) (h : H p = none) : Stp W B H (upd B p o) (upd H p o) :=
  ⟨Ex.new (w.none h), w.both, fun a u _ e => Ex.new h a u e, fun a u e => ⟨u, Ex.new h a u e⟩, fun a u hb e => by rw [upd_ne (ne_of_none e h)]; exact hb⟩
/-- a new object that may change -/
theorem Stp.newM (w : Ex B H) (h : H p = none) : Stp W B H B (upd H p o) :=
  ⟨Ex.refl B, w.upd (w.none h), fun a u _ e => Ex.new h a u e, fun a u e => ⟨u, Ex.new h a u e⟩, fun a u hb _ => hb⟩
/-- a changed object of W -/
theorem Stp.set (w : Ex B H) (hp : p ∈ W) (hb : B p = none) {u : HO} (hu : H p = some u) : Stp W B H B (upd H p o) :=
  ⟨Ex.refl B, w.upd hb, fun a u hx e => by rw [upd_ne (fun z => hx (by rw [z]; exact hp))]; exact e, fun a u e => by
    by_cases q : a = p
    · subst q; exact ⟨o, upd_same⟩
    · exact ⟨u, by rw [upd_ne q]; exact e⟩, fun _ _ h _ => h⟩
/-- an object of our own, made behind the entry, changed -/
theorem Stp.own (a : Stp W B H B1 H1) (h0 : H p = none) (hb : B1 p = none) (h : ∃ u, H1 p = some u) : Stp W B H B1 (upd H1 p o) :=
  ⟨a.ex, a.ok.upd hb, fun x u hx e => by rw [upd_ne (ne_of_none e h0)]; exact a.fr x u hx e, fun x u e => by
    rw [upd_ne (ne_of_none e h0)]; exact a.al x u e, a.nw⟩
/-- an object of our own turns into one that stays -/
theorem Stp.keep (w : Ex B H) (a : Stp W B H B1 H1) (h0 : H p = none) (hb : B1 p = none) (h : H1 p = some o) : Stp W B H (upd B1 p o) H1 :=
  ⟨fun x u e => by rw [upd_ne (ne_of_none e (w.none h0))]; exact a.ex x u e, fun x u e => by
    by_cases q : x = p
    · subst q; rw [upd_same] at e; cases e; exact h
    · rw [upd_ne q] at e; exact a.ok x u e, a.fr, a.al, fun x u hb e => by rw [upd_ne (ne_of_none e h0)]; exact a.nw x u hb e⟩
end
/-! ### mirrors -/
/-- an error that is raised: the class's name, what it is told -/
structure Err where
  cls : Str
  args : List D := []
/-- what a mirror gives: a value, an error, or a place that the model does not serve -/
inductive Res (α : Type) where
  | ok (a : α) | err (e : Err) | stuck
def Res.bind {α β : Type} (m : Res α) (k : α → Res β) : Res β := match m with | .ok a => k a | .err e => .err e | .stuck => .stuck
/-- an error that nobody waits for -/
def Res.noErr {α : Type} (m : Res α) : Res α := match m with | .ok a => .ok a | _ => .stuck
instance : Monad Res where
  pure := Res.ok
  bind := Res.bind
def Post0 {α : Type} (m : Res α) (P : α → Prop) (R : Err → Prop) : Prop := match m with | .ok a => P a | .err e => R e | .stuck => False
/-- what the mirror gives is wished for: a structure, so that nothing looks into it -/
structure Post {α : Type} (m : Res α) (P : α → Prop) (R : Err → Prop) : Prop where
  h0 : Post0 m P R
section
variable {α β : Type} {m : Res α} {P P' : α → Prop} {R R' : Err → Prop} {a : α}
theorem Post.mono (h : Post m P R) (hp : ∀ a, P a → P' a) (hr : ∀ e, R e → R' e) : Post m P' R' := by
  obtain ⟨h⟩ := h
  refine ⟨?_⟩
  cases m with
  | ok a => exact hp a h
  | err e => exact hr e h
  | stuck => exact h
theorem Post.bind {k : α → Res β} {P : β → Prop} (h : Post (m.bind k) P R) : Post m (fun a => Post (k a) P R) R := by
  obtain ⟨h⟩ := h
  refine ⟨?_⟩
  cases m
  · exact ⟨h⟩
  · exact h
  · exact h
theorem Post.noErr (h : Post m.noErr P R) : Post m P (fun _ => False) := by
  obtain ⟨h⟩ := h
  refine ⟨?_⟩
  cases m with
  | ok a => exact h
  | err e => exact h
  | stuck => exact h
theorem Post.ok (h : Post (.ok a) P R) : P a := h.h0
theorem Post.err {e : Err} (h : Post (.err e : Res α) P R) : R e := h.h0
theorem Post.elim {C : Prop} (h : Post (.stuck : Res α) P R) : C := False.elim h.h0
theorem Post.mk' (h : P a) : Post (.ok a) P R := ⟨h⟩
theorem Post.iteT {c : Bool} {m m' : Res α} (h : Post (if c = true then m else m') P R) (hc : c = true) : Post m P R := by
  rw [if_pos hc] at h; exact h
theorem Post.iteF {c : Bool} {m m' : Res α} (h : Post (if c = true then m else m') P R) (hc : c = false) : Post m' P R := by
  rw [hc, if_neg Bool.false_ne_true] at h; exact h
theorem Post.is {m' : Res α} (h : Post m P R) (e : m = m') : Post m' P R := e ▸ h
end
/-- an item -/
def ixR {α : Type} (l : List α) (i : Int) : Res α := match atI l i with | some x => .ok x | none => .stuck
theorem Post.ix {α β : Type} {l : List α} {i : Int} {k : α → Res β} {P : β → Prop} {R : Err → Prop} (h : Post ((ixR l i).bind k) P R) : ∃ x, atI l i = some x ∧ Post (k x) P R := by
  unfold ixR at h
  cases e : atI l i with
  | none => rw [e] at h; exact h.elim
  | some x => rw [e] at h; exact ⟨x, rfl, h⟩
/-- where c holds -/
def guardR {α : Type} (c : Prop) [Decidable c] (m : Res α) : Res α := if c then m else .stuck
theorem Post.guard {α : Type} {c : Prop} [Decidable c] {m : Res α} {P : α → Prop} {R : Err → Prop} (h : Post (guardR c m) P R) : c ∧ Post m P R := by
  unfold guardR at h
  by_cases e : c
  · rw [if_pos e] at h; exact ⟨e, h⟩
  · rw [if_neg e] at h; exact h.elim
instance (i j : Int) : Decidable (CMulW i j) := by unfold CMulW; infer_instance
instance (i j : Int) : Decidable (CDivW i j) := by unfold CDivW; infer_instance
/-- a loop's turn: on, or a value that is returned, or out -/
inductive Fl (S R : Type) where
  | nx (s : S) | rt (r : R) | bk (s : S)
def forR {α S R : Type} : List α → S → (α → S → Res (Fl S R)) → Res (Fl S R)
  | [], s, _ => .ok (.nx s)
  | x :: xs, s, f => (f x s).bind fun r => match r with | .nx s' => forR xs s' f | r => .ok r
theorem Post.forS {α S R : Type} {l : List α} {i : Nat} {s : S} {f : α → S → Res (Fl S R)} {P : Fl S R → Prop} {E : Err → Prop} {x : α} (h : Post (forR (l.drop i) s f) P E) (hx : l[i]? = some x) :
    Post (f x s) (fun r => match r with | .nx s' => Post (forR (l.drop (i + 1)) s' f) P E | .rt v => P (.rt v) | .bk s' => P (.bk s')) E := by
  obtain ⟨hi, e⟩ := List.getElem?_eq_some_iff.mp hx
  rw [List.drop_eq_getElem_cons hi, e] at h
  exact (Post.bind h).mono (fun r q => by
    cases r
    · exact q
    · exact q.ok
    · exact q.ok) fun _ q => q
theorem Post.forN {α S R : Type} {l : List α} {i : Nat} {s : S} {f : α → S → Res (Fl S R)} {P : Fl S R → Prop} {E : Err → Prop} (h : Post (forR (l.drop i) s f) P E) (hi : l.length ≤ i) : P (.nx s) := by
  rw [List.drop_eq_nil_of_le hi] at h
  exact h.ok

/-! ### what stands for data -/
class Enc (α : Type) where
  enc : α → D
open Enc (enc)
structure Tp1 (α : Type) where
  a : α
structure Tp2 (α β : Type) where
  a : α
  b : β
structure Tp3 (α β γ : Type) where
  a : α
  b : β
  c : γ
structure Tp4 (α β γ δ : Type) where
  a : α
  b : β
  c : γ
  d : δ
structure Tp5 (α β γ δ ε : Type) where
  a : α
  b : β
  c : γ
  d : δ
  e : ε
instance : Enc Int := ⟨.int⟩
instance : Enc Bool := ⟨.bl⟩
instance : Enc Str := ⟨.str⟩
instance : Enc Unit := ⟨fun _ => .non⟩
instance : Enc D := ⟨id⟩
instance {α : Type} [Enc α] : Enc (List α) := ⟨fun l => .lst (l.map enc)⟩
instance {α : Type} [Enc α] : Enc (Option α) := ⟨fun o => match o with | some x => enc x | none => .non⟩
instance {α : Type} [Enc α] : Enc (Tp1 α) := ⟨fun t => .tup [enc t.a]⟩
instance {α β : Type} [Enc α] [Enc β] : Enc (Tp2 α β) := ⟨fun t => .tup [enc t.a, enc t.b]⟩
instance {α β γ : Type} [Enc α] [Enc β] [Enc γ] : Enc (Tp3 α β γ) := ⟨fun t => .tup [enc t.a, enc t.b, enc t.c]⟩
instance {α β γ δ : Type} [Enc α] [Enc β] [Enc γ] [Enc δ] : Enc (Tp4 α β γ δ) := ⟨fun t => .tup [enc t.a, enc t.b, enc t.c, enc t.d]⟩
instance {α β γ δ ε : Type} [Enc α] [Enc β] [Enc γ] [Enc δ] [Enc ε] : Enc (Tp5 α β γ δ ε) := ⟨fun t => .tup [enc t.a, enc t.b, enc t.c, enc t.d, enc t.e]⟩

/-- a list that may change: at p, outside of what is known for good -/
def Mu (K : PySem.W.Frag) (B H : Hp) (p : Addr) (ds : List D) : Prop := B p = none ∧ ∃ xs, H p = some (.lst xs) ∧ RepL K B xs ds
/-- a list that stands in the written part -/
def KL (K : PySem.W.Frag) (a : Addr) (xs : List V) : Prop := ∃ (o : Obj) (its : Array Value) (n : Nat), K.lookup a = some o ∧ o.cls = .type "list" ∧ o.dict = none ∧ o.data = .seq its n ∧ its.size ≤ sizeLine ∧ Vals xs its.toList
/-- a list that is read: at v now -/
def Bor (K : PySem.W.Frag) (B H : Hp) (W : List Addr) (v : V) (ds : List D) : Prop := ∃ p xs, v = .ref p ∧ ((Rd H p (.lst xs) ∧ p ∉ W) ∨ KL K p xs) ∧ RepL K B xs ds
/-- what a return hands on -/
def Ret (K : PySem.W.Frag) (W : List Addr) (B H : Hp) (d : D) (Q : VK) : Prop := ∀ v B' H', Stp W B H B' H' → Rep K B' v d → Q v H'
/-- .. where the list at p may have changed -/
def RetM (K : PySem.W.Frag) (p : Addr) (B H : Hp) (d : D) (ds : List D) (Q : VK) : Prop := ∀ v B' H', Stp [p] B H B' H' → Mu K B' H' p ds → Rep K B' v d → Q v H'
/-- .. that is raised -/
def Rai (mg : Str → Option Value) (W : List Addr) (B H : Hp) (e : Err) (E : XK) : Prop := ∀ C B' H', mg e.cls = some (.ref C) → Stp W B H B' H' → E (.ref C) none H'
section
variable {K : PySem.W.Frag} {B B' B1 H H' H1 : Hp} {W : List Addr} {p q : Addr} {ds es : List D} {xs : List V} {d : D} {v : V} {Q : VK} {mg : Str → Option Value} {E : XK}
theorem Mu.step (m : Mu K B H p ds) (s : Stp W B H B' H') (h : p ∉ W) : Mu K B' H' p ds := by
  obtain ⟨hb, xs, hp, r⟩ := m
  exact ⟨s.nw p _ hb hp, xs, s.fr p _ h hp, r.mono s.ex⟩
theorem Mu.new (w : Ex B H) (h : H p = none) (r : RepL K B xs ds) : Mu K B (upd H p (.lst xs)) p ds := ⟨w.none h, xs, upd_same, r⟩
theorem Mu.bor (m : Mu K B H p ds) (h : p ∉ W) : Bor K B H W (.ref p) ds := by
  obtain ⟨hb, xs, hp, r⟩ := m
  exact ⟨p, xs, rfl, .inl ⟨.inl hp, h⟩, r⟩
theorem Mu.ne (m : Mu K B H p ds) (h : H q = none) : p ≠ q := by
  obtain ⟨hb, xs, hp, r⟩ := m
  exact ne_of_none hp h
theorem Bor.step (m : Bor K B H W v ds) (s : Stp W B H B' H') : Bor K B' H' W v ds := by
  obtain ⟨p, xs, e, hp, r⟩ := m
  refine ⟨p, xs, e, ?_, r.mono s.ex⟩
  rcases hp with ⟨hp | ⟨o, hp⟩, hw⟩ | hp
  · exact .inl ⟨.inl (s.fr p _ hw hp), hw⟩
  · exact .inl ⟨.inr ⟨o, s.fr p _ hw hp⟩, hw⟩
  · exact .inr hp
theorem Bor.w {W' : List Addr} (m : Bor K B H W v ds) (h : ∀ x, x ∈ W' → x ∈ W) : Bor K B H W' v ds := by
  obtain ⟨p, xs, e, hp, r⟩ := m
  refine ⟨p, xs, e, ?_, r⟩
  rcases hp with ⟨hp, hw⟩ | hp
  · exact .inl ⟨hp, fun z => hw (h p z)⟩
  · exact .inr hp
theorem Bor.sq (m : Bor K B H W v ds) : ∃ p xs, v = .ref p ∧ SqL K H p xs ∧ RepL K B xs ds := by
  obtain ⟨p, xs, e, hp, r⟩ := m
  refine ⟨p, xs, e, ?_, r⟩
  rcases hp with ⟨hp, _⟩ | hp
  · exact .inl hp
  · exact .inr hp
theorem Rep.bor (w : Ex B H) (r : Rep K B v (.lst ds)) (h : ∀ x, x ∈ W → B x = none) : Bor K B H W v ds := by
  cases r with
  | @lst p xs _ hp r =>
    refine ⟨p, xs, rfl, ?_, r⟩
    rcases hp with hp | hp
    · refine .inl ⟨w.rd hp, fun z => ?_⟩
      have e := h p z
      rcases hp with hp | ⟨o, hp⟩
      · rw [hp] at e; cases e
      · rw [hp] at e; cases e
    · exact .inr hp
theorem Rep.bor0 (w : Ex B H) (r : Rep K B v (.lst ds)) : Bor K B H [] v ds := r.bor w (fun _ z => nomatch z)
theorem Rep.sq (w : Ex B H) (r : Rep K B v (.lst ds)) : ∃ p xs, v = .ref p ∧ SqL K H p xs ∧ RepL K B xs ds := by
  cases r with
  | @lst p xs _ hp r => exact ⟨p, xs, rfl, w.l hp, r⟩
theorem Rep.st (w : Ex B H) (r : Rep K B v (.tup ds)) : ∃ p xs, v = .ref p ∧ SqT K H p xs ∧ RepL K B xs ds := by
  cases r with
  | @tup p xs _ hp r => exact ⟨p, xs, rfl, w.t hp, r⟩
theorem Mu.sq (m : Mu K B H p ds) : ∃ xs, H p = some (.lst xs) ∧ SqL K H p xs ∧ RepL K B xs ds := by
  obtain ⟨hb, xs, hp, r⟩ := m
  exact ⟨xs, hp, SqL.of hp, r⟩
theorem Stp.mut (w : Ex B H) (m : Mu K B H p ds) (r : RepL K B xs es) : Stp [p] B H B (upd H p (.lst xs)) ∧ Mu K B (upd H p (.lst xs)) p es := by
  obtain ⟨hb, ys, hp, _⟩ := m
  exact ⟨Stp.set w (by simp) hb hp, hb, xs, upd_same, r⟩
end
/-- the built-in type of a thing -/
def tyD : D → String
  | .non => "NoneType" | .bl _ => "bool" | .int _ => "int" | .str _ => "str" | .lst _ => "list" | .tup _ => "tuple" | .dic _ => "dict"
theorem Rep.ty {K : PySem.W.Frag} {B H : Hp} {v : V} {d : D} (w : Ex B H) (r : Rep K B v d) : TyX K H v (.type (tyD d)) := by
  cases r with
  | non => exact .base .non
  | bl b => exact .base (.bl b)
  | int i => exact .base (.int i)
  | str x => exact .base (.str x)
  | lst h r =>
    rcases h with (h | ⟨o, h⟩) | ⟨o, its, n, h, hc, _⟩
    · exact .base (.lst (w _ _ h))
    · exact .base (.frz (w _ _ h))
    · exact .kList h hc
  | tup h r =>
    rcases h with (h | ⟨o, h⟩) | ⟨o, its, n, h, hc, _⟩
    · exact .base (.tup (w _ _ h))
    · exact .fTuple (w _ _ h)
    · exact .kTuple h hc
  | dic h r => exact .base (.dK (w _ _ h))
def isS (s t : String) : Bool := s == t || (s == "bool" && t == "int")
def isA (t : String) (d : D) : Bool := isS (tyD d) t
theorem kit_tab : ∀ s ∈ ["NoneType", "bool", "int", "str", "list", "tuple", "dict"], ∀ t ∈ ["bool", "int", "str", "list", "tuple", "dict"], kitB s t = some (isS s t) := by decide +kernel
theorem tyD_in (d : D) : tyD d ∈ ["NoneType", "bool", "int", "str", "list", "tuple", "dict"] := by cases d <;> simp [tyD]
/-- isinstance(x, int | bool | str | list | tuple | dict) -/
theorem isi {K : PySem.W.Frag} {B H : Hp} {v : V} {d : D} {t : String} {Q : VK} (w : Ex B H) (r : Rep K B v d) (q : Q (.bl (isA t d)) H) (ht : t ∈ ["bool", "int", "str", "list", "tuple", "dict"] := by simp) : rIsi K [v, .ty t] H Q :=
  ⟨v, .ty t, _, .type t, isA t d, rfl, .ty t, r.ty w, kit_ty (kit_tab _ (tyD_in d) _ ht), q⟩
theorem boot_bool : bootBuiltins "bool" = some (.type "bool") := by decide +kernel
theorem boot_int : bootBuiltins "int" = some (.type "int") := by decide +kernel
theorem boot_str : bootBuiltins "str" = some (.type "str") := by decide +kernel
theorem boot_list : bootBuiltins "list" = some (.type "list") := by decide +kernel
theorem boot_tuple : bootBuiltins "tuple" = some (.type "tuple") := by decide +kernel
theorem boot_dict : bootBuiltins "dict" = some (.type "dict") := by decide +kernel

/-! ### readings, step by step -/
def NwL (xs : List V) (H : Hp) (Q : VK) : Prop := ∀ p, H p = none → Q (.ref p) (upd H p (.lst xs))
def NwT (xs : List V) (H : Hp) (Q : VK) : Prop := ∀ p, H p = none → Q (.ref p) (upd H p (.tup xs))
def NewL (xs : List V) (H : Hp) (Q : VK) : Prop := xs.length ≤ sizeLine ∧ NwL xs H Q
def NewT (xs : List V) (H : Hp) (Q : VK) : Prop := xs.length ≤ sizeLine ∧ NwT xs H Q
section
variable {K : PySem.W.Frag} {σ σ' : L2.St} {H : Hp} {Q : VK} {D' : Ends} {te ta tb tc : TE} {tt tt' : TT} {t u z : TS} {tl : TA} {v x y : V} {i j : Int} {n : Nat} {r r' : R2} {W : List Addr}
theorem h_seq (h : t { D' with nx := u D' } σ H) : tSeq t u D' σ H := h
theorem h_set (h : te σ H fun x H1 => u D' (σ.set n (some x)) H1) : tSeq (tAsg te (gName n)) u D' σ H := h
theorem h_set1 (h : te σ H fun x H1 => D'.nx (σ.set n (some x)) H1) : tAsg te (gName n) D' σ H := h
theorem h_nrm {T : L2.St → Hp → Prop} (h : T σ' H) (e : σ' = σ := by rfl) : T σ H := e ▸ h
theorem h_drop (h : te σ H fun _ H1 => D'.nx σ H1) : tDrop te D' σ H := h
theorem h_ret (h : te σ H D'.rt) : tRet te D' σ H := h
theorem h_if {c : TT} (h : c σ H fun b H1 => if b = true then t D' σ H1 else u D' σ H1) : tIfS c t u D' σ H := h
theorem h_next (h : D'.nx σ H) : tNext D' σ H := h
theorem h_nx {a c d : L2.St → Hp → Prop} {b : VK} (h : a σ H) : (Ends.mk a b c d).nx σ H := h
theorem h_var (e : σ[n]? = some (some v)) (h : Q v H) : tVar n σ H Q := ⟨v, e, h⟩
theorem h_c (h : Q v H) : tC v σ H Q := h
theorem h_op (h : ta σ H fun x H1 => tb σ H1 fun y H2 => r x y H2 Q) : tOp r ta tb σ H Q := h
theorem h_I0 {g : Int → Int → V} (h : Q (g i j) H) : rI0 g (.int i) (.int j) H Q := ⟨i, j, rfl, rfl, h⟩
theorem h_I {C : Int → Int → Prop} {g : Int → Int → V} (c : C i j) (h : Q (g i j) H) : rI C g (.int i) (.int j) H Q := ⟨i, j, rfl, rfl, c, h⟩
theorem h_un {f : V → Hp → VK → Prop} (h : ta σ H fun x H1 => f x H1 Q) : tUn f ta σ H Q := h
theorem h_U {g : Int → V} (h : Q (g i) H) : rU g (.int i) H Q := ⟨i, rfl, h⟩
theorem h_eq (s : scal x y = true) (h : Q (.bl (decide (x = y))) H) : rEq x y H Q := ⟨s, h⟩
theorem h_ne (s : scal x y = true) (h : Q (.bl (!decide (x = y))) H) : rNe x y H Q := ⟨s, h⟩
theorem dec_i : decide (V.int i = V.int j) = decide (i = j) := by simp
theorem dec_b {i j : Bool} : decide (V.bl i = V.bl j) = decide (i = j) := by simp
theorem dec_s {i j : Str} : decide (V.str i = V.str j) = decide (i = j) := by simp
theorem h_eqI (h : Q (.bl (decide (i = j))) H) : rEq (.int i) (.int j) H Q := ⟨rfl, by rw [dec_i]; exact h⟩
theorem h_neI (h : Q (.bl (!decide (i = j))) H) : rNe (.int i) (.int j) H Q := ⟨rfl, by rw [dec_i]; exact h⟩
theorem h_eqS {i j : Str} (h : Q (.bl (decide (i = j))) H) : rEq (.str i) (.str j) H Q := ⟨rfl, by rw [dec_s]; exact h⟩
theorem h_neS {i j : Str} (h : Q (.bl (!decide (i = j))) H) : rNe (.str i) (.str j) H Q := ⟨rfl, by rw [dec_s]; exact h⟩
theorem h_eqB {i j : Bool} (h : Q (.bl (decide (i = j))) H) : rEq (.bl i) (.bl j) H Q := ⟨rfl, by rw [dec_b]; exact h⟩
theorem h_neB {i j : Bool} (h : Q (.bl (!decide (i = j))) H) : rNe (.bl i) (.bl j) H Q := ⟨rfl, by rw [dec_b]; exact h⟩
theorem h_chain (h : ta σ H fun x H1 => tb σ H1 fun y H2 => r x y H2 fun z H3 => ∃ k, z = .bl k ∧ (if k = true then tc σ H3 fun w' H4 => r' y w' H4 Q else Q (.bl false) H3)) : tChain r r' ta tb tc σ H Q := h
theorem h_chk {k : Bool} {A : Prop} {w : V} {f : Bool → Prop} (hw : w = .bl k) (h : f k) : ∃ k, w = .bl k ∧ f k := ⟨k, hw, h⟩
theorem h_and (h : ta σ H fun x H1 => ∃ c, x = .bl c ∧ if c = true then tb σ H1 Q else Q (.bl false) H1) : tAndV ta tb σ H Q := h
theorem h_or (h : ta σ H fun x H1 => ∃ c, x = .bl c ∧ if c = true then Q (.bl true) H1 else tb σ H1 Q) : tOrV ta tb σ H Q := h
theorem h_not (h : ta σ H fun x H1 => ∃ c, x = .bl c ∧ Q (.bl (!c)) H1) : tNotV ta σ H Q := h
theorem h_tand {Q : Bool → Hp → Prop} (h : tt σ H fun c H1 => if c = true then tt' σ H1 Q else Q false H1) : tAnd tt tt' σ H Q := h
theorem h_tor {Q : Bool → Hp → Prop} (h : tt σ H fun c H1 => if c = true then Q true H1 else tt' σ H1 Q) : tOr tt tt' σ H Q := h
theorem h_tnot {Q : Bool → Hp → Prop} (h : tt σ H fun c H1 => Q (!c) H1) : tNot tt σ H Q := h
theorem h_test {Q : Bool → Hp → Prop} (h : te σ H fun x H' => ∃ k, x = .bl k ∧ Q k H') : tTest te σ H Q := h
theorem h_tB {Q : Bool → Hp → Prop} (h : te σ H fun x H' => ∃ k, x = .bl k ∧ Q k H') : tB te σ H Q := h
theorem h_bl {b : Bool} {f : Bool → Prop} (h : f b) : ∃ k, V.bl b = .bl k ∧ f k := ⟨b, rfl, h⟩
theorem h_iteT {A B : Prop} (h : A) : if true = true then A else B := by rw [if_pos rfl]; exact h
theorem h_iteF {A B : Prop} (h : B) : if false = true then A else B := by rw [if_neg Bool.false_ne_true]; exact h
theorem h_ite {b : Bool} {A B : Prop} (h1 : b = true → A) (h2 : b = false → B) : if b = true then A else B := by
  cases b
  · exact h_iteF (h2 rfl)
  · exact h_iteT (h1 rfl)
theorem h_ifE {c : TT} (h : c σ H fun b H1 => if b = true then ta σ H1 Q else tb σ H1 Q) : tIf c ta tb σ H Q := h
theorem h_nil {Q : List V → Hp → Prop} (h : Q [] H) : tNil σ H Q := h
theorem h_cons {Q : List V → Hp → Prop} (h : te σ H fun x H1 => tl σ H1 fun xs H2 => Q (x :: xs) H2) : tCons te tl σ H Q := h
theorem h_cb {f : List V → Hp → VK → Prop} (h : tl σ H fun vs H1 => f vs H1 Q) : tCB f tl σ H Q := h
theorem h_call {sp : Sp} {dvs : List V} {E : XK} (h : tl σ H fun vs H1 => sp (vs ++ dvs) H1 Q E) : tCall sp dvs E tl σ H Q := h
theorem h_callS {sp : Sp} {E : L2.St → XK} (h : tl σ H fun vs H1 => sp vs H1 Q (E σ)) : tCallS sp E tl σ H Q := h
theorem h_tup (h : tl σ H fun xs H1 => NewT xs H1 Q) : tTup tl σ H Q := h
theorem h_lst (h : tl σ H fun xs H1 => NewL xs H1 Q) : tLst tl σ H Q := h
theorem h_ixL {p : Addr} {xs : List V} (s : SqL K H p xs) (e : atI xs i = some v) (h : Q v H) : rIxL K (.ref p) (.int i) H Q := ⟨p, xs, i, v, rfl, rfl, s, e, h⟩
theorem h_ixT {p : Addr} {xs : List V} (s : SqT K H p xs) (e : atI xs i = some v) (h : Q v H) : rIxT K (.ref p) (.int i) H Q := ⟨p, xs, i, v, rfl, rfl, s, e, h⟩
end

section
variable {K : PySem.W.Frag} {σ : L2.St} {B B1 B' H H1 H' B0 H0 : Hp} {Q : VK} {W W' : List Addr} {p q : Addr} {xs ys : List V} {ds es : List D} {v : V} {d : D} {i j : Int} {te ta tb : TE}
theorem h_newL (w : Ex B H) (r : RepL K B xs ds) (h : ∀ p B' H', Stp [] B H B' H' → Rep K B' (.ref p) (.lst ds) → Q (.ref p) H') (hn : xs.length ≤ sizeLine) : NewL xs H Q :=
  ⟨hn, fun p hp => h p _ _ (Stp.new w hp) (.lst (SqL.of upd_same) (r.mono (Ex.new (w.none hp))))⟩
theorem h_newT (w : Ex B H) (r : RepL K B xs ds) (h : ∀ p B' H', Stp [] B H B' H' → Rep K B' (.ref p) (.tup ds) → Q (.ref p) H') (hn : xs.length ≤ sizeLine) : NewT xs H Q :=
  ⟨hn, fun p hp => h p _ _ (Stp.new w hp) (.tup (SqT.of upd_same) (r.mono (Ex.new (w.none hp))))⟩
theorem h_newM (w : Ex B H) (r : RepL K B xs ds) (h : ∀ p H', H p = none → Stp [] B H B H' → Mu K B H' p ds → Q (.ref p) H') (hn : xs.length ≤ sizeLine) : NewL xs H Q :=
  ⟨hn, fun p hp => h p _ hp (Stp.newM w hp) (Mu.new w hp r)⟩
theorem h_nwL (w : Ex B H) (r : RepL K B xs ds) (h : ∀ p B' H', Stp [] B H B' H' → Rep K B' (.ref p) (.lst ds) → Q (.ref p) H') : NwL xs H Q :=
  fun p hp => h p _ _ (Stp.new w hp) (.lst (SqL.of upd_same) (r.mono (Ex.new (w.none hp))))
theorem h_nwT (w : Ex B H) (r : RepL K B xs ds) (h : ∀ p B' H', Stp [] B H B' H' → Rep K B' (.ref p) (.tup ds) → Q (.ref p) H') : NwT xs H Q :=
  fun p hp => h p _ _ (Stp.new w hp) (.tup (SqT.of upd_same) (r.mono (Ex.new (w.none hp))))
theorem h_nwM (w : Ex B H) (r : RepL K B xs ds) (h : ∀ p H', H p = none → Stp [] B H B H' → Mu K B H' p ds → Q (.ref p) H') : NwL xs H Q :=
  fun p hp => h p _ hp (Stp.newM w hp) (Mu.new w hp r)
/-- what was free now was free at the entry -/
theorem Stp.nn (s : Stp W B0 H0 B H) (h : H p = none) : H0 p = none := by
  cases e : H0 p with
  | none => rfl
  | some o => obtain ⟨u, q⟩ := s.al p o e; rw [h] at q; cases q
/-- a step that writes at an object of our own -/
theorem Stp.own2 (a : Stp W B0 H0 B H) (s : Stp [p] B H B' H') (h0 : H0 p = none) : Stp W B0 H0 B' H' :=
  ⟨a.ex.trans s.ex, s.ok, fun x u hx e => s.fr x u (fun z => by
      rw [List.mem_singleton.mp z, h0] at e; cases e) (a.fr x u hx e), fun x u e => let ⟨u1, e1⟩ := a.al x u e; s.al x u1 e1, fun x u hb e => let ⟨u1, e1⟩ := a.al x u e; s.nw x u1 (a.nw x u hb e) e1⟩
theorem nm0 : p ∉ ([] : List Addr) := fun z => nomatch z
theorem nm1 (h : p ≠ q) : p ∉ [q] := fun z => h (List.mem_singleton.mp z)
theorem sub0 : ∀ x, x ∈ ([] : List Addr) → x ∈ W := fun _ z => nomatch z
/-- a list of our own is kept as it is -/
theorem Mu.keep (m : Mu K B H p ds) : ∃ B', Ex B B' ∧ (∀ q, q ≠ p → B q = none → B' q = none) ∧ (∀ W B0 H0, Stp W B0 H0 B H → Ex B0 H0 → H0 p = none → Stp W B0 H0 B' H) ∧ Rep K B' (.ref p) (.lst ds) := by
  obtain ⟨hb, xs, hp, r⟩ := m
  exact ⟨upd B p (.lst xs), Ex.new hb, fun q n e => by rw [upd_ne n]; exact e, fun W B0 H0 st w0 h0 => Stp.keep w0 st h0 hb hp, .lst (SqL.of upd_same) (r.mono (Ex.new hb))⟩
/-- a step that writes at what may be written and at objects of our own -/
theorem Stp.go (a : Stp W B0 H0 B H) (s : Stp W' B H B' H') (h : ∀ p, p ∈ W' → p ∈ W ∨ H0 p = none) : Stp W B0 H0 B' H' :=
  ⟨a.ex.trans s.ex, s.ok, fun x u hx e => s.fr x u (fun z => by
      rcases h x z with q | q
      · exact hx q
      · rw [q] at e; cases e) (a.fr x u hx e), fun x u e => let ⟨u1, e1⟩ := a.al x u e; s.al x u1 e1, fun x u hb e => let ⟨u1, e1⟩ := a.al x u e; s.nw x u1 (a.nw x u hb e) e1⟩
theorem go0 {F : Addr → Prop} : ∀ x, x ∈ ([] : List Addr) → F x := fun _ z => nomatch z
theorem go1 {F : Addr → Prop} (h : F p) : ∀ x, x ∈ [p] → F x := fun x z => by rw [List.mem_singleton.mp z]; exact h
theorem go2 {F : Addr → Prop} (h : F p) (h' : F q) : ∀ x, x ∈ [p, q] → F x := fun x z => by
  rcases List.mem_cons.mp z with e | e
  · rw [e]; exact h
  · rw [List.mem_singleton.mp e]; exact h'
theorem go3 {F : Addr → Prop} {r : Addr} (h : F p) (h' : F q) (h2 : F r) : ∀ x, x ∈ [p, q, r] → F x := fun x z => by
  rcases List.mem_cons.mp z with e | e
  · rw [e]; exact h
  · exact go2 h' h2 x e
theorem go4 {F : Addr → Prop} {r r2 : Addr} (h : F p) (h' : F q) (h2 : F r) (h3 : F r2) : ∀ x, x ∈ [p, q, r, r2] → F x := fun x z => by
  rcases List.mem_cons.mp z with e | e
  · rw [e]; exact h
  · exact go3 h' h2 h3 x e
theorem nm2 {r : Addr} (h : p ≠ q) (h' : p ≠ r) : p ∉ [q, r] := fun z => by
  rcases List.mem_cons.mp z with e | e
  · exact h e
  · exact h' (List.mem_singleton.mp e)
theorem nm3 {r r2 : Addr} (h : p ≠ q) (h' : p ≠ r) (h2 : p ≠ r2) : p ∉ [q, r, r2] := fun z => by
  rcases List.mem_cons.mp z with e | e
  · exact h e
  · exact nm2 h' h2 e
theorem nm4 {r r2 r3 : Addr} (h : p ≠ q) (h' : p ≠ r) (h2 : p ≠ r2) (h3 : p ≠ r3) : p ∉ [q, r, r2, r3] := fun z => by
  rcases List.mem_cons.mp z with e | e
  · exact h e
  · exact nm3 h' h2 h3 e
theorem Mu.kp (m : Mu K B H q es) (e : Ex B B') (k : ∀ q, q ≠ p → B q = none → B' q = none) (n : q ≠ p) : Mu K B' H q es := by
  obtain ⟨hb, xs, hp, r⟩ := m
  exact ⟨k q n hb, xs, hp, r.mono e⟩
theorem RepL.atE {α : Type} [Enc α] {l : List α} {x : α} (r : RepL K B xs (l.map enc)) (h : atI l i = some x) : ∃ v, atI xs i = some v ∧ Rep K B v (enc x) := by
  refine r.at ?_
  unfold atI at h ⊢
  rw [List.length_map]
  cases e : ixN l.length i with
  | none => rw [e] at h; cases h
  | some k =>
    rw [e] at h
    show (l.map enc)[k]? = _
    rw [List.getElem?_map, show l[k]? = some x from h]
    rfl
theorem h_pow {k : Int} (e : i ^ j.toNat = k) (c : CPow i j) (h : Q (.int k) H) : rI CPow (fun i j => .int (i ^ j.toNat)) (.int i) (.int j) H Q := ⟨i, j, rfl, rfl, c, by show Q (.int (i ^ j.toNat)) H; rw [e]; exact h⟩
instance (i j : Int) : Decidable (CPow i j) := by unfold CPow; infer_instance
instance (i j : Int) : Decidable (CMul i j) := by unfold CMul; infer_instance
instance (i j : Int) : Decidable (CDiv i j) := by unfold CDiv; infer_instance
def absI (i : Int) : Int := if i < 0 then -i else i
def b2z (b : Bool) : Int := if b then 1 else 0
theorem h_isB {a b : Bool} (h : Q (.bl (decide (a = b))) H) : rIsB (.bl a) (.bl b) H Q := ⟨a, b, rfl, rfl, h⟩
theorem h_isnotB {a b : Bool} (h : Q (.bl (!decide (a = b))) H) : rNotB (.bl a) (.bl b) H Q := ⟨a, b, rfl, rfl, h⟩
def rLenY (K : PySem.W.Frag) : List V → Hp → VK → Prop := fun xs H Q => ∃ p ys, xs = [.ref p] ∧ (SqL K H p ys ∨ SqT K H p ys) ∧ Q (.int ys.length) H
def rAbsY : List V → Hp → VK → Prop := fun xs H Q => ∃ i, xs = [.int i] ∧ Q (.int (if i < 0 then -i else i)) H
def rIntY : List V → Hp → VK → Prop := fun xs H Q => (∃ i, xs = [.int i] ∧ Q (.int i) H) ∨ ∃ k, xs = [.bl k] ∧ Q (.int (if k then 1 else 0)) H
def rStrY : List V → Hp → VK → Prop := fun xs H Q => ∃ i, xs = [.int i] ∧ i.natAbs.log2 < 1920 ∧ Q (.str (toString i)) H
def rListY (K : PySem.W.Frag) : List V → Hp → VK → Prop := fun xs H Q => ∃ p ys, xs = [.ref p] ∧ (SqL K H p ys ∨ SqT K H p ys) ∧ ∀ l, H l = none → Q (.ref l) (upd H l (.lst ys))
def rTupY (K : PySem.W.Frag) : List V → Hp → VK → Prop := fun xs H Q => ∃ p ys, xs = [.ref p] ∧ ((SqL K H p ys ∧ ∀ l, H l = none → Q (.ref l) (upd H l (.tup ys))) ∨ (SqT K H p ys ∧ Q (.ref p) H))
theorem cr_len {X : Cx} : CallR X (.builtin "len") (rLenY X.K) := call_len_seq
theorem cr_abs {X : Cx} : CallR X (.builtin "abs") rAbsY := call_abs
theorem cr_int {X : Cx} : CallR X (.type "int") rIntY := call_int1
theorem cr_str {X : Cx} : CallR X (.type "str") rStrY := call_str_int
theorem cr_list {X : Cx} : CallR X (.type "list") (rListY X.K) := call_list_of
theorem cr_tuple {X : Cx} : CallR X (.type "tuple") (rTupY X.K) := call_tuple_of
theorem h_len {α : Type} [Enc α] {l : List α} (s : SqL K H p xs) (r : RepL K B xs (l.map enc)) (h : Q (.int l.length) H) : rLenY K [V.ref p] H Q := by
  refine ⟨p, xs, rfl, .inl s, ?_⟩
  rw [show xs.length = l.length from by rw [r.length, List.length_map]]
  exact h
theorem h_lenT (s : SqT K H p xs) (r : RepL K B xs ds) (h : Q (.int ds.length) H) : rLenY K [V.ref p] H Q := by
  refine ⟨p, xs, rfl, .inr s, ?_⟩
  rw [r.length]
  exact h
theorem h_abs (h : Q (.int (absI i)) H) : rAbsY [V.int i] H Q := ⟨i, rfl, h⟩
theorem h_intB {b : Bool} (h : Q (.int (b2z b)) H) : rIntY [V.bl b] H Q := .inr ⟨b, rfl, h⟩
theorem h_intI (h : Q (.int i) H) : rIntY [V.int i] H Q := .inl ⟨i, rfl, h⟩
theorem h_str (c : i.natAbs.log2 < 1920) (h : Q (.str (toString i)) H) : rStrY [V.int i] H Q := ⟨i, rfl, c, h⟩
theorem h_listL (s : SqL K H p xs) (h : NwL xs H Q) : rListY K [V.ref p] H Q := ⟨p, xs, rfl, .inl s, h⟩
theorem h_listT (s : SqT K H p xs) (h : NwL xs H Q) : rListY K [V.ref p] H Q := ⟨p, xs, rfl, .inr s, h⟩
theorem h_tupL (s : SqL K H p xs) (h : NwT xs H Q) : rTupY K [V.ref p] H Q := ⟨p, xs, rfl, .inl ⟨s, h⟩⟩
theorem h_iteN {b : Bool} {A C : Prop} (h1 : b = false → A) (h2 : b = true → C) : if (!b) = true then A else C := by
  cases b
  · exact h_iteT (h1 rfl)
  · exact h_iteF (h2 rfl)
theorem h_iteNT {A C : Prop} (h : C) : if (!true) = true then A else C := h_iteF h
theorem h_iteNF {A C : Prop} (h : A) : if (!false) = true then A else C := h_iteT h
theorem Post.iteTn {α : Type} {m m' : Res α} {P : α → Prop} {R : Err → Prop} {c : Bool} (h : Post (if (!c) = true then m else m') P R) (hc : c = false) : Post m P R := by
  rw [hc] at h; exact h
theorem Post.iteFn {α : Type} {m m' : Res α} {P : α → Prop} {R : Err → Prop} {c : Bool} (h : Post (if (!c) = true then m else m') P R) (hc : c = true) : Post m' P R := by
  rw [hc] at h; exact h
end

/-! ### joins, loops, comprehensions, in step with the mirror -/
section
variable {K : PySem.W.Frag} {σ : L2.St} {B B1 B' H H1 H' B0 H0 : Hp} {Q : VK} {W W' : List Addr} {p q : Addr} {xs ys : List V} {ds es : List D} {v : V} {d : D} {t z tb : TS} {te : TE} {c tt : TT} {D' : Ends} {g : TG} {ti : TI}
variable {α β S R' : Type} {P : β → Prop} {R : Err → Prop}
theorem h_joinS {m : Res α} {k : α → Res β} (hP : Post (m.bind k) P R) (J : α → L2.St → Hp → Prop)
    (h1 : ∀ N : L2.St → Hp → Prop, (∀ a σ' H', J a σ' H' → Post (k a) P R → N σ' H') → Post m (fun a => Post (k a) P R) R → t { D' with nx := N } σ H)
    (h2 : ∀ a σ' H', J a σ' H' → Post (k a) P R → z D' σ' H') : tSeq t z D' σ H := h1 _ h2 hP.bind
theorem h_condJ {m : Res Bool} {k : Bool → Res β} {Qb : Bool → Hp → Prop} (hP : Post (m.bind k) P R) (J : Hp → Prop)
    (h1 : ∀ N : Bool → Hp → Prop, (∀ b H', J H' → Post (k b) P R → N b H') → Post m (fun b => Post (k b) P R) R → c σ H N)
    (h2 : ∀ b H', J H' → Post (k b) P R → Qb b H') : c σ H Qb := h1 _ h2 hP.bind
theorem h_exprJ {m : Res α} {k : α → Res β} (hP : Post (m.bind k) P R) (J : α → V → Hp → Prop)
    (h1 : ∀ N : VK, (∀ a v H', J a v H' → Post (k a) P R → N v H') → Post m (fun a => Post (k a) P R) R → te σ H N)
    (h2 : ∀ a v H', J a v H' → Post (k a) P R → Q v H') : te σ H Q := h1 _ h2 hP.bind
theorem h_gname {n : Nat} {Q : L2.St → Hp → Prop} (h : Q (σ.set n (some v)) H) : gName n v σ H Q := h
/-- behind a loop -/
def afterR (k : S → Res β) : Fl S β → Res β
  | .nx s => k s | .rt r => .ok r | .bk s => k s
/-- a join of ways of which some end the def (or the turn) -/
theorem h_joinF {m : Res (Fl S β)} {k : S → Res β} (hP : Post (m.bind (afterR k)) P R) (J : S → L2.St → Hp → Prop)
    (h1 : ∀ (N : L2.St → Hp → Prop) (T : Fl S β → Prop), (∀ a σ' H', J a σ' H' → T (.nx a) → N σ' H') → (∀ r, T (.rt r) → P r) → Post m T R → t { D' with nx := N } σ H)
    (h2 : ∀ a σ' H', J a σ' H' → Post (k a) P R → z D' σ' H') : tSeq t z D' σ H :=
  h1 _ (fun a => Post (afterR k a) P R) (fun a σ' H' j q => h2 a σ' H' j q) (fun _ q => (q : Post (.ok _) P R).ok) hP.bind
/-- what a turn hands on -/
def turnR (l : List α) (f : α → S → Res (Fl S R')) (i : Nat) (P : Fl S R' → Prop) (R : Err → Prop) : Fl S R' → Prop
  | .nx s => Post (forR (l.drop i) s f) P R | .rt r => P (.rt r) | .bk s => P (.bk s)
theorem Post.turn {l : List α} {i : Nat} {s : S} {f : α → S → Res (Fl S R')} {P : Fl S R' → Prop} {x : α} (h : Post (forR (l.drop i) s f) P R) (hx : l[i]? = some x) : Post (f x s) (turnR l f (i + 1) P R) R :=
  (Post.forS h hx).mono (fun r q => by cases r <;> exact q) fun _ q => q

theorem h_forE (h : te σ H fun x H1 => tFor (iList K (tC x)) g tb D' σ H1) : tFor (iList K te) g tb D' σ H := h
theorem h_forL [Enc α] {l : List α} {s0 : S} {f : α → S → Res (Fl S β)} {k : S → Res β} (hP : Post ((forR l s0 f).bind (afterR k)) P R) (hs : SqL K H p xs) (hr : RepL K B xs (l.map enc))
    (J : S → L2.St → Hp → Prop) (h0 : J s0 σ H) (hl : ∀ s σ' H', J s σ' H' → SqL K H' p xs)
    (hb : ∀ (N : L2.St → Hp → Prop) (T : Fl S β → Prop) (x : α) v s σ' H', J s σ' H' → Rep K B v (enc x) → (∀ s' σ2 H2, J s' σ2 H2 → T (.nx s') → N σ2 H2) → (∀ r, T (.rt r) → P r) → (∀ s' σ2 H2, J s' σ2 H2 → T (.bk s') → D'.nx σ2 H2) → Post (f x s) T R →
      g v σ' H' fun σ2 H2 => tb { D' with nx := N, ct := N, bk := D'.nx } σ2 H2)
    (hd : ∀ s σ' H', J s σ' H' → Post (k s) P R → D'.nx σ' H') : tFor (iList K (tC (.ref p))) g tb D' σ H := by
  refine ⟨p, rfl, ⟨xs, hs⟩, for_list (K := K) (a := p) (xs := xs) (fun i σ' H' => ∃ s, J s σ' H' ∧ Post (forR (l.drop i) s f) (fun a => Post (afterR k a) P R) R) ⟨s0, h0, hP.bind⟩ (fun i σ' H' _ ⟨s, j, _⟩ => hl s σ' H' j) ?_ ?_⟩
  · rintro i y σ' H' hi ⟨s, j, q⟩
    obtain ⟨x, hx⟩ : ∃ x, l[i]? = some x := by
      have h1 := (List.getElem?_eq_some_iff.mp hi).1
      rw [hr.length, List.length_map] at h1
      exact ⟨l[i], List.getElem?_eq_getElem h1⟩
    obtain ⟨u, hu, ru⟩ := hr.get (i := i) (d := enc x) (by rw [List.getElem?_map, hx]; rfl)
    rw [hi] at hu; cases hu
    exact hb _ _ x y s σ' H' j ru (fun s' σ2 H2 j2 t2 => ⟨s', j2, t2⟩) (fun r t2 => (t2 : Post (.ok r) P R).ok) (fun s' σ2 H2 j2 t2 => hd s' σ2 H2 j2 t2) (q.turn hx)
  · rintro σ' H' ⟨s, j, q⟩
    exact hd s σ' H' j (q.forN (by rw [hr.length, List.length_map]; exact Nat.le_refl _))
theorem h_forTE (h : te σ H fun x H1 => tFor (iTup K (tC x)) g tb D' σ H1) : tFor (iTup K te) g tb D' σ H := h
theorem h_forT [Enc α] {l : List α} {s0 : S} {f : α → S → Res (Fl S β)} {k : S → Res β} (hP : Post ((forR l s0 f).bind (afterR k)) P R) (hs : SqT K H p xs) (hr : RepL K B xs (l.map enc))
    (J : S → L2.St → Hp → Prop) (h0 : J s0 σ H) (hl : ∀ s σ' H', J s σ' H' → SqT K H' p xs)
    (hb : ∀ (N : L2.St → Hp → Prop) (T : Fl S β → Prop) (x : α) v s σ' H', J s σ' H' → Rep K B v (enc x) → (∀ s' σ2 H2, J s' σ2 H2 → T (.nx s') → N σ2 H2) → (∀ r, T (.rt r) → P r) → (∀ s' σ2 H2, J s' σ2 H2 → T (.bk s') → D'.nx σ2 H2) → Post (f x s) T R →
      g v σ' H' fun σ2 H2 => tb { D' with nx := N, ct := N, bk := D'.nx } σ2 H2)
    (hd : ∀ s σ' H', J s σ' H' → Post (k s) P R → D'.nx σ' H') : tFor (iTup K (tC (.ref p))) g tb D' σ H := by
  refine ⟨p, rfl, ⟨xs, hs⟩, for_tup (K := K) (a := p) (xs := xs) (fun i σ' H' => ∃ s, J s σ' H' ∧ Post (forR (l.drop i) s f) (fun a => Post (afterR k a) P R) R) ⟨s0, h0, hP.bind⟩ (fun i σ' H' _ ⟨s, j, _⟩ => hl s σ' H' j) ?_ ?_⟩
  · rintro i y σ' H' hi ⟨s, j, q⟩
    obtain ⟨x, hx⟩ : ∃ x, l[i]? = some x := by
      have h1 := (List.getElem?_eq_some_iff.mp hi).1
      rw [hr.length, List.length_map] at h1
      exact ⟨l[i], List.getElem?_eq_getElem h1⟩
    obtain ⟨u, hu, ru⟩ := hr.get (i := i) (d := enc x) (by rw [List.getElem?_map, hx]; rfl)
    rw [hi] at hu; cases hu
    exact hb _ _ x y s σ' H' j ru (fun s' σ2 H2 j2 t2 => ⟨s', j2, t2⟩) (fun r t2 => (t2 : Post (.ok r) P R).ok) (fun s' σ2 H2 j2 t2 => hd s' σ2 H2 j2 t2) (q.turn hx)
  · rintro σ' H' ⟨s, j, q⟩
    exact hd s σ' H' j (q.forN (by rw [hr.length, List.length_map]; exact Nat.le_refl _))
/-- the ints from lo on, below hi -/
def rngI (lo hi : Int) : List Int := (List.range (hi - lo).toNat).map fun (i : Nat) => lo + (i : Int)
theorem rngI_get {lo hi : Int} {i : Nat} (h : i < (hi - lo).toNat) : (rngI lo hi)[i]? = some (lo + (i : Int)) := by
  unfold rngI
  rw [List.getElem?_map, List.getElem?_range h]
  rfl
theorem rngI_len {lo hi : Int} : (rngI lo hi).length = (hi - lo).toNat := by
  unfold rngI
  rw [List.length_map, List.length_range]
def Rng1 (vs : List V) (g : TG) (tb : TS) (D' : Ends) (σ : L2.St) (H : Hp) : Prop := tFor (iRng1 (fun _ H Q => Q vs H)) g tb D' σ H
def Rng2 (vs : List V) (g : TG) (tb : TS) (D' : Ends) (σ : L2.St) (H : Hp) : Prop := tFor (iRng2 (fun _ H Q => Q vs H)) g tb D' σ H
theorem h_rng1 {ta : TA} (h : ta σ H fun vs H1 => Rng1 vs g tb D' σ H1) : tFor (iRng1 ta) g tb D' σ H := h
theorem h_rng2 {ta : TA} (h : ta σ H fun vs H1 => Rng2 vs g tb D' σ H1) : tFor (iRng2 ta) g tb D' σ H := h
theorem forRng {lo hi : Int} {s0 : S} {f : Int → S → Res (Fl S β)} {k : S → Res β} (hP : Post ((forR (rngI lo hi) s0 f).bind (afterR k)) P R)
    (J : S → L2.St → Hp → Prop) (h0 : J s0 σ H)
    (hb : ∀ (N : L2.St → Hp → Prop) (T : Fl S β → Prop) (x : Int) s σ' H', J s σ' H' → lo ≤ x → x < hi → (∀ s' σ2 H2, J s' σ2 H2 → T (.nx s') → N σ2 H2) → (∀ r, T (.rt r) → P r) → (∀ s' σ2 H2, J s' σ2 H2 → T (.bk s') → D'.nx σ2 H2) → Post (f x s) T R →
      g (.int x) σ' H' fun σ2 H2 => tb { D' with nx := N, ct := N, bk := D'.nx } σ2 H2)
    (hd : ∀ s σ' H', J s σ' H' → Post (k s) P R → D'.nx σ' H') :
    ∃ W : Nat → Nat → L2.St → Hp → Prop, (∃ m, W 0 m σ H) ∧ ∀ i m σ H, W i m σ H →
      ((Itr lo (hi - lo).toNat).stop i H ∧ D'.nx σ H) ∨ ((Itr lo (hi - lo).toNat).go i H ∧ ∃ N : L2.St → Hp → Prop, (∀ σ' H', N σ' H' → ∃ m', m' < m ∧ W (i + 1) m' σ' H') ∧ ∀ x H', (Itr lo (hi - lo).toNat).yld i H x H' → g x σ H' fun σ2 H2 => tb { D' with nx := N, ct := N, bk := D'.nx } σ2 H2) := by
  refine for_range (lo := lo) (n := (hi - lo).toNat) (fun i σ' H' => ∃ s, J s σ' H' ∧ Post (forR ((rngI lo hi).drop i) s f) (fun a => Post (afterR k a) P R) R) ⟨s0, h0, hP.bind⟩ ?_ ?_
  · rintro i σ' H' hi' ⟨s, j, q⟩
    exact hb _ _ (lo + (i : Int)) s σ' H' j (by omega) (by omega) (fun s' σ2 H2 j2 t2 => ⟨s', j2, t2⟩) (fun r t2 => (t2 : Post (.ok r) P R).ok) (fun s' σ2 H2 j2 t2 => hd s' σ2 H2 j2 t2) (q.turn (rngI_get hi'))
  · rintro σ' H' ⟨s, j, q⟩
    exact hd s σ' H' j (q.forN (by rw [rngI_len]; exact Nat.le_refl _))
theorem h_forR1 {hi : Int} {s0 : S} {f : Int → S → Res (Fl S β)} {k : S → Res β} (hP : Post ((forR (rngI 0 hi) s0 f).bind (afterR k)) P R) (hz : -(2 ^ 62) ≤ hi ∧ hi < 2 ^ 62)
    (J : S → L2.St → Hp → Prop) (h0 : J s0 σ H)
    (hb : ∀ (N : L2.St → Hp → Prop) (T : Fl S β → Prop) (x : Int) s σ' H', J s σ' H' → 0 ≤ x → x < hi → (∀ s' σ2 H2, J s' σ2 H2 → T (.nx s') → N σ2 H2) → (∀ r, T (.rt r) → P r) → (∀ s' σ2 H2, J s' σ2 H2 → T (.bk s') → D'.nx σ2 H2) → Post (f x s) T R →
      g (.int x) σ' H' fun σ2 H2 => tb { D' with nx := N, ct := N, bk := D'.nx } σ2 H2)
    (hd : ∀ s σ' H', J s σ' H' → Post (k s) P R → D'.nx σ' H') : Rng1 [.int hi] g tb D' σ H := by
  have q := forRng hP J h0 hb hd
  rw [Int.sub_zero] at q
  exact ⟨hi, rfl, hz.1, hz.2, q⟩
theorem h_forR2 {lo hi : Int} {s0 : S} {f : Int → S → Res (Fl S β)} {k : S → Res β} (hP : Post ((forR (rngI lo hi) s0 f).bind (afterR k)) P R) (hz : (-(2 ^ 62) ≤ lo ∧ lo < 2 ^ 62) ∧ -(2 ^ 62) ≤ hi ∧ hi < 2 ^ 62)
    (J : S → L2.St → Hp → Prop) (h0 : J s0 σ H)
    (hb : ∀ (N : L2.St → Hp → Prop) (T : Fl S β → Prop) (x : Int) s σ' H', J s σ' H' → lo ≤ x → x < hi → (∀ s' σ2 H2, J s' σ2 H2 → T (.nx s') → N σ2 H2) → (∀ r, T (.rt r) → P r) → (∀ s' σ2 H2, J s' σ2 H2 → T (.bk s') → D'.nx σ2 H2) → Post (f x s) T R →
      g (.int x) σ' H' fun σ2 H2 => tb { D' with nx := N, ct := N, bk := D'.nx } σ2 H2)
    (hd : ∀ s σ' H', J s σ' H' → Post (k s) P R → D'.nx σ' H') : Rng2 [.int lo, .int hi] g tb D' σ H :=
  ⟨lo, hi, rfl, ⟨hz.1.1, hz.1.2, hz.2.1, hz.2.2⟩, forRng hP J h0 hb hd⟩

/-! comprehensions -/
def compL : List α → S → (α → S → Res (Option R' × S)) → Res (List R' × S)
  | [], s, _ => .ok ([], s)
  | x :: xs, s, f => (f x s).bind fun r => (compL xs r.2 f).bind fun q => .ok (match r.1 with | some b => b :: q.1 | none => q.1, q.2)
def compR (l : List α) (s : S) (f : α → S → Res (Option R' × S)) : Res (List R' × S) := guardR (l.length ≤ 1000000) (compL l s f)
def compT (l : List α) (f : α → S → Res (Option R' × S)) (k : List R' × S → Res β) (acc : List R') (P : β → Prop) (R : Err → Prop) : Option R' × S → Prop
  | (some b, s) => Post ((compL l s f).bind fun q => k (acc ++ [b] ++ q.1, q.2)) P R
  | (none, s) => Post ((compL l s f).bind fun q => k (acc ++ q.1, q.2)) P R
theorem Post.compS {l : List α} {i : Nat} {s : S} {f : α → S → Res (Option R' × S)} {k : List R' × S → Res β} {acc : List R'} {x : α} (h : Post ((compL (l.drop i) s f).bind fun q => k (acc ++ q.1, q.2)) P R) (hx : l[i]? = some x) :
    Post (f x s) (compT (l.drop (i + 1)) f k acc P R) R := by
  obtain ⟨hi, e⟩ := List.getElem?_eq_some_iff.mp hx
  rw [List.drop_eq_getElem_cons hi, e] at h
  have h2 := (Post.bind (Post.bind h))
  refine h2.mono (fun r q => ?_) fun _ q => q
  obtain ⟨o, s'⟩ := r
  cases o with
  | some b =>
    show Post ((compL (l.drop (i + 1)) s' f).bind fun q => k (acc ++ [b] ++ q.1, q.2)) P R
    have q1 : Post ((compL (l.drop (i + 1)) s' f).bind fun q => .ok (b :: q.1, q.2)) (fun a => Post (k (acc ++ a.1, a.2)) P R) R := q
    generalize compL (l.drop (i + 1)) s' f = m at q1 ⊢
    cases m with
    | ok a =>
      have q2 : Post (k (acc ++ (b :: a.1), a.2)) P R := q1.ok
      show Post (k (acc ++ [b] ++ a.1, a.2)) P R
      rw [List.append_assoc]
      exact q2
    | err e => exact ⟨q1.h0⟩
    | stuck => exact ⟨q1.h0⟩
  | none =>
    show Post ((compL (l.drop (i + 1)) s' f).bind fun q => k (acc ++ q.1, q.2)) P R
    have q1 : Post ((compL (l.drop (i + 1)) s' f).bind fun q => .ok (q.1, q.2)) (fun a => Post (k (acc ++ a.1, a.2)) P R) R := q
    generalize compL (l.drop (i + 1)) s' f = m at q1 ⊢
    cases m
    · exact q1.ok
    · exact ⟨q1.h0⟩
    · exact ⟨q1.h0⟩
theorem h_app1 [Enc α] {l : List α} {b : α} {y : V} {N : Hp → Prop} (w : Ex B H) (m : Mu K B H p (l.map enc)) (r : Rep K B y (enc b)) (hz : l.length < sizeLine) (h : ∀ H', Stp [p] B H B H' → Mu K B H' p ((l ++ [b]).map enc) → N H') :
    ∃ acc, H p = some (.lst acc) ∧ acc.length < sizeLine ∧ N (upd H p (.lst (acc ++ [y]))) := by
  obtain ⟨hb, xs, hp, hr⟩ := id m
  refine ⟨xs, hp, by rw [hr.length, List.length_map]; exact hz, ?_⟩
  have rl : RepL K B (xs ++ [y]) ((l ++ [b]).map enc) := by
    rw [List.map_append]
    exact hr.append (.cons r .nil)
  obtain ⟨s, m'⟩ := Stp.mut w m rl
  exact h _ s m'
def LcL (K : PySem.W.Frag) (v : V) (g : TG) (tt : TT) (te : TE) (vs : List Nat) (σ : L2.St) (H : Hp) (Q : VK) : Prop := tLc (iList K (tC v)) g tt te vs σ H Q
theorem h_lcE {vs : List Nat} {tl : TE} (h : tl σ H fun x H1 => LcL K x g tt te vs σ H1 Q) : tLc (iList K tl) g tt te vs σ H Q := h
def LcT (σ : L2.St) (vs : List Nat) (tt : TT) (te : TE) (Dl : Addr) (N : Hp → Prop) : L2.St → Hp → Prop := fun σ2 H2 => wipe σ2 vs = wipe σ vs ∧ tt σ2 H2 fun b H3 =>
  if b = true then te σ2 H3 fun y H4 => ∃ acc, H4 Dl = some (.lst acc) ∧ acc.length < sizeLine ∧ N (upd H4 Dl (.lst (acc ++ [y]))) else N H3
def App (Dl : Addr) (N : Hp → Prop) : VK := fun y H4 => ∃ acc, H4 Dl = some (.lst acc) ∧ acc.length < sizeLine ∧ N (upd H4 Dl (.lst (acc ++ [y])))
theorem h_lcT {vs : List Nat} {Dl : Addr} {N : Hp → Prop} {σ2 : L2.St} (e : wipe σ2 vs = wipe σ vs) (h : te σ2 H (App Dl N)) : LcT σ vs tYes te Dl N σ2 H := ⟨e, h⟩
theorem h_lcI {vs : List Nat} {Dl : Addr} {N : Hp → Prop} {σ2 : L2.St} (e : wipe σ2 vs = wipe σ vs) (h : tt σ2 H fun b H3 => if b = true then te σ2 H3 (App Dl N) else N H3) : LcT σ vs tt te Dl N σ2 H := ⟨e, h⟩
theorem h_app [Enc α] {l : List α} {b : α} {y : V} {N : Hp → Prop} (w : Ex B H) (m : Mu K B H p (l.map enc)) (r : Rep K B y (enc b)) (hz : l.length < sizeLine) (h : ∀ H', Stp [p] B H B H' → Mu K B H' p ((l ++ [b]).map enc) → N H') : App p N y H := h_app1 w m r hz h
theorem h_lcL [Enc α] {l : List α} {s0 : S} {f : α → S → Res (Option R' × S)} {k : List R' × S → Res β} {vs : List Nat} (hP : Post ((compR l s0 f).bind k) P R) (hs : SqL K H p xs) (hr : RepL K B xs (l.map enc))
    (J : Addr → List R' → S → Hp → Prop) (h0 : ∀ Dl, H Dl = none → J Dl [] s0 (upd H Dl (.lst []))) (hl : ∀ Dl acc s H', J Dl acc s H' → SqL K H' p xs)
    (hb : ∀ (Dl : Addr) (N : Hp → Prop) (T : Option R' × S → Prop) (x : α) v acc s H', J Dl acc s H' → Rep K B v (enc x) → acc.length < sizeLine → (∀ b s' H2, J Dl (acc ++ [b]) s' H2 → T (some b, s') → N H2) → (∀ s' H2, J Dl acc s' H2 → T (none, s') → N H2) → Post (f x s) T R →
      g v (wipe σ vs) H' (LcT σ vs tt te Dl N))
    (hd : ∀ Dl acc s H', J Dl acc s H' → Post (k (acc, s)) P R → Q (.ref Dl) H') : LcL K (.ref p) g tt te vs σ H Q := by
  refine ⟨p, rfl, ⟨xs, hs⟩, fun Dl hD => ?_⟩
  unfold compR at hP
  have hz : l.length ≤ 1000000 := by
    by_cases c : l.length ≤ 1000000
    · exact c
    · unfold guardR at hP; rw [if_neg c] at hP; exact hP.elim
  unfold guardR at hP
  rw [if_pos hz] at hP
  refine lc_list (K := K) (a := p) (xs := xs) (fun i H' => ∃ acc s, J Dl acc s H' ∧ acc.length ≤ i ∧ Post ((compL (l.drop i) s f).bind fun q => k (acc ++ q.1, q.2)) P R) ⟨[], s0, h0 Dl hD, Nat.le_refl _, hP⟩ (fun i H' _ ⟨acc, s, j, _⟩ => hl Dl acc s H' j) ?_ ?_
  · rintro i y H' hi ⟨acc, s, j, hn, q⟩
    have h1 := (List.getElem?_eq_some_iff.mp hi).1
    rw [hr.length, List.length_map] at h1
    obtain ⟨x, hx⟩ : ∃ x, l[i]? = some x := ⟨l[i], List.getElem?_eq_getElem h1⟩
    obtain ⟨u, hu, ru⟩ := hr.get (i := i) (d := enc x) (by rw [List.getElem?_map, hx]; rfl)
    rw [hi] at hu; cases hu
    exact hb Dl _ _ x y acc s H' j ru (Nat.lt_of_le_of_lt (Nat.le_trans hn (Nat.le_trans (Nat.le_of_lt h1) hz)) (by decide)) (fun b s' H2 j2 t2 => ⟨acc ++ [b], s', j2, by rw [List.length_append]; exact Nat.succ_le_succ hn, t2⟩) (fun s' H2 j2 t2 => ⟨acc, s', j2, Nat.le_succ_of_le hn, t2⟩) (q.compS hx)
  · rintro H' ⟨acc, s, j, _, q⟩
    rw [hr.length, List.length_map, List.drop_eq_nil_of_le (Nat.le_refl _)] at q
    have q2 : Post (k (acc ++ [], s)) P R := q
    rw [List.append_nil] at q2
    exact hd Dl acc s H' j q2
def LcR1 (ws : List V) (g : TG) (tt : TT) (te : TE) (vs : List Nat) (σ : L2.St) (H : Hp) (Q : VK) : Prop := tLc (iRng1 (fun _ H Q => Q ws H)) g tt te vs σ H Q
theorem h_lcR1E {vs : List Nat} {ta : TA} (h : ta σ H fun ws H1 => LcR1 ws g tt te vs σ H1 Q) : tLc (iRng1 ta) g tt te vs σ H Q := h
theorem h_lcR1 {hi : Int} {s0 : S} {f : Int → S → Res (Option R' × S)} {k : List R' × S → Res β} {vs : List Nat} (hP : Post ((compR (rngI 0 hi) s0 f).bind k) P R)
    (J : Addr → List R' → S → Hp → Prop) (h0 : ∀ Dl, H Dl = none → J Dl [] s0 (upd H Dl (.lst [])))
    (hb : ∀ (Dl : Addr) (N : Hp → Prop) (T : Option R' × S → Prop) (x : Int) acc s H', J Dl acc s H' → 0 ≤ x → x < hi → acc.length < sizeLine → (∀ b s' H2, J Dl (acc ++ [b]) s' H2 → T (some b, s') → N H2) → (∀ s' H2, J Dl acc s' H2 → T (none, s') → N H2) → Post (f x s) T R →
      g (.int x) (wipe σ vs) H' (LcT σ vs tt te Dl N))
    (hd : ∀ Dl acc s H', J Dl acc s H' → Post (k (acc, s)) P R → Q (.ref Dl) H') (hlo : -(2 ^ 62) ≤ hi) : LcR1 [.int hi] g tt te vs σ H Q := by
  unfold compR at hP
  have hz : (rngI 0 hi).length ≤ 1000000 := by
    by_cases c : (rngI 0 hi).length ≤ 1000000
    · exact c
    · unfold guardR at hP; rw [if_neg c] at hP; exact hP.elim
  unfold guardR at hP
  rw [if_pos hz] at hP
  rw [rngI_len, Int.sub_zero] at hz
  refine ⟨hi, rfl, hlo, by omega, fun Dl hD => ?_⟩
  refine lc_range (lo := 0) (n := hi.toNat) (fun i H' => ∃ acc s, J Dl acc s H' ∧ acc.length ≤ i ∧ Post ((compL ((rngI 0 hi).drop i) s f).bind fun q => k (acc ++ q.1, q.2)) P R) ⟨[], s0, h0 Dl hD, Nat.le_refl _, hP⟩ ?_ ?_
  · rintro i H' hi' ⟨acc, s, j, hn, q⟩
    have hx := rngI_get (lo := 0) (hi := hi) (i := i) (by omega)
    have e : (0 : Int) + (i : Int) = (i : Int) := Int.zero_add _
    exact hb Dl _ _ (0 + (i : Int)) acc s H' j (by omega) (by omega) (Nat.lt_of_le_of_lt (Nat.le_trans hn (Nat.le_trans (Nat.le_of_lt hi') hz)) (by decide)) (fun b s' H2 j2 t2 => ⟨acc ++ [b], s', j2, by rw [List.length_append]; exact Nat.succ_le_succ hn, t2⟩) (fun s' H2 j2 t2 => ⟨acc, s', j2, Nat.le_succ_of_le hn, t2⟩) (q.compS hx)
  · rintro H' ⟨acc, s, j, _, q⟩
    rw [List.drop_eq_nil_of_le (by rw [rngI_len]; omega)] at q
    have q2 : Post (k (acc ++ [], s)) P R := q
    rw [List.append_nil] at q2
    exact hd Dl acc s H' j q2
end

section
variable {K : PySem.W.Frag} {B B' H H' B0 H0 : Hp} {W : List Addr} {p : Addr} {xs : List V} {ds : List D} {v : V} {a b c d : L2.St → Hp → Prop} {rt : VK} {σ : L2.St}
theorem Rep.sqB (r : Rep K B v (.lst ds)) : ∃ p xs, v = .ref p ∧ SqL K B p xs ∧ RepL K B xs ds := by
  cases r with
  | @lst p xs _ hp r => exact ⟨p, xs, rfl, hp, r⟩
theorem Rep.stB (r : Rep K B v (.tup ds)) : ∃ p xs, v = .ref p ∧ SqT K B p xs ∧ RepL K B xs ds := by
  cases r with
  | @tup p xs _ hp r => exact ⟨p, xs, rfl, hp, r⟩
theorem Bor.sq0 (m : Bor K B0 H0 W v ds) : ∃ p xs, v = .ref p ∧ RepL K B0 xs ds ∧ ∀ B' H', Stp W B0 H0 B' H' → SqL K H' p xs := by
  obtain ⟨p, xs, e, hp, r⟩ := m
  refine ⟨p, xs, e, r, fun B' H' s => ?_⟩
  rcases hp with ⟨hp | ⟨o, hp⟩, hw⟩ | hp
  · exact .inl (.inl (s.fr p _ hw hp))
  · exact .inl (.inr ⟨o, s.fr p _ hw hp⟩)
  · exact .inr hp
theorem h_ct (h : d σ H) : tCont (Ends.mk a rt b d) σ H := h
theorem h_bk (h : b σ H) : tBreak (Ends.mk a rt b d) σ H := h
end

/-! ### lists that change -/
def setR {α : Type} (l : List α) (i : Int) (x : α) : Res (List α) := match ixN l.length i with | some j => .ok (l.set j x) | none => .stuck
def Bm (K : PySem.W.Frag) (T : String) (r : V → List V → Hp → VK → Prop) (t : TA) (σ : L2.St) (x : V) (H : Hp) (Q : VK) : Prop := tyV K T x H ∧ t σ H fun xs H2 => r x xs H2 Q
def Bm0 (K : PySem.W.Frag) (T : String) (r : V → List V → Hp → VK → Prop) (σ : L2.St) (x : V) (H : Hp) (Q : VK) : Prop := tyV K T x H ∧ r x [] H Q
section
variable {K : PySem.W.Frag} {σ : L2.St} {B H : Hp} {Q : VK} {p q : Addr} {v y : V} {te to ti : TE} {t : TA} {D' : Ends} {z : TS} {i : Int} {r : V → List V → Hp → VK → Prop}
theorem h_bm {T : String} (h : to σ H fun x H1 => Bm K T r t σ x H1 Q) : tBM K T r to t σ H Q := h
theorem h_bm0 {T : String} (h : to σ H fun x H1 => Bm0 K T r σ x H1 Q) : tBM0 K T r to σ H Q := h
theorem Mu.tyV {ds : List D} (m : Mu K B H p ds) : tyV K "list" (.ref p) H := by
  obtain ⟨hb, xs, hp, _⟩ := m
  exact .inl ⟨rfl, _, .inl (.inl hp)⟩
theorem h_bmL {ds : List D} (m : Mu K B H p ds) (h : t σ H fun xs H2 => r (.ref p) xs H2 Q) : Bm K "list" r t σ (.ref p) H Q := ⟨m.tyV, h⟩
theorem h_bmL0 {ds : List D} (m : Mu K B H p ds) (h : r (.ref p) [] H Q) : Bm0 K "list" r σ (.ref p) H Q := ⟨m.tyV, h⟩
theorem h_append {α : Type} [Enc α] {l : List α} {b : α} (w : Ex B H) (m : Mu K B H p (l.map enc)) (ry : Rep K B y (enc b)) (hz : l.length < 1000000) (h : ∀ H', Stp [p] B H B H' → Mu K B H' p ((l ++ [b]).map enc) → Q .non H') : rAppend (.ref p) [y] H Q := by
  obtain ⟨hb, xs, hp, hr⟩ := id m
  refine ⟨p, xs, y, rfl, rfl, hp, by rw [hr.length, List.length_map]; exact Nat.lt_of_lt_of_le hz (by decide), ?_⟩
  have rl : RepL K B (xs ++ [y]) ((l ++ [b]).map enc) := by
    rw [List.map_append]
    exact hr.append (.cons ry .nil)
  obtain ⟨s, m'⟩ := Stp.mut w m rl
  exact h _ s m'
theorem h_extend {α : Type} [Enc α] {l l2 : List α} (w : Ex B H) (m : Mu K B H p (l.map enc)) (m2 : Mu K B H q (l2.map enc)) (hz : l.length + l2.length ≤ 1000000) (h : ∀ H', Stp [p] B H B H' → Mu K B H' p ((l ++ l2).map enc) → Q .non H') : rExtend (.ref p) [.ref q] H Q := by
  obtain ⟨hb, xs, hp, hr⟩ := id m
  obtain ⟨hb2, ys, hp2, hr2⟩ := id m2
  refine ⟨p, q, xs, ys, rfl, rfl, hp, hp2, by rw [hr.length, hr2.length, List.length_map, List.length_map]; exact Nat.le_trans hz (by decide), ?_⟩
  have rl : RepL K B (xs ++ ys) ((l ++ l2).map enc) := by
    rw [List.map_append]
    exact hr.append hr2
  obtain ⟨s, m'⟩ := Stp.mut w m rl
  exact h _ s m'
theorem RepL.set : ∀ {vs : List V} {ds : List D} {j : Nat} {d : D}, RepL K B vs ds → Rep K B v d → RepL K B (vs.set j v) (ds.set j d)
  | _, _, _, _, .nil, _ => .nil
  | _, _, 0, _, .cons _ t, r => .cons r t
  | _, _, j + 1, _, .cons h t, r => .cons h (RepL.set t r)
theorem Post.set {α β : Type} {l : List α} {x : α} {k : List α → Res β} {P : β → Prop} {R : Err → Prop} (h : Post ((setR l i x).bind k) P R) : ∃ j, ixN l.length i = some j ∧ Post (k (l.set j x)) P R := by
  unfold setR at h
  cases e : ixN l.length i with
  | none => rw [e] at h; exact h.elim
  | some j => rw [e] at h; exact ⟨j, rfl, h⟩
def SubS (K : PySem.W.Frag) (to ti : TE) (σ : L2.St) (v : V) (H : Hp) (N : L2.St → Hp → Prop) : Prop := gSub to ti rSetL v σ H N
theorem h_sub {N : L2.St → Hp → Prop} (h : to σ H fun o H1 => ti σ H1 fun i H2 => rSetL o i v H2 fun H3 => N σ H3) : gSub to ti rSetL v σ H N := h
theorem h_asg {g : TG} (h : te σ H fun x H1 => g x σ H1 D'.nx) : tAsg te g D' σ H := h
theorem h_setL {α : Type} [Enc α] {l : List α} {b : α} {N : Hp → Prop} {j : Nat} (w : Ex B H) (m : Mu K B H p (l.map enc)) (ry : Rep K B v (enc b)) (hj : ixN l.length i = some j) (h : ∀ H', Stp [p] B H B H' → Mu K B H' p ((l.set j b).map enc) → N H') : rSetL (.ref p) (.int i) v H N := by
  obtain ⟨hb, xs, hp, hr⟩ := id m
  refine ⟨p, xs, i, j, rfl, rfl, hp, by rw [hr.length, List.length_map]; exact hj, ?_⟩
  have rl : RepL K B (xs.set j v) ((l.set j b).map enc) := by
    rw [List.map_set]
    exact hr.set ry
  obtain ⟨s, m'⟩ := Stp.mut w m rl
  exact h _ s m'
end

/-- a value with a name -/
def lt {α β : Type} (d : α) (k : α → Res β) : Res β := k d
theorem Post.lt {α β : Type} {d : α} {k : α → Res β} {P : β → Prop} {R : Err → Prop} (h : Post (Y.lt d k) P R) : Post (k d) P R := h

/-! ### lists put together, cut, compared; keywords alone -/
def rCatQ (K : PySem.W.Frag) : R2 := fun x y H Q => ∃ a b xs ys, x = .ref a ∧ y = .ref b ∧ SqL K H a xs ∧ SqL K H b ys ∧ xs.length + ys.length ≤ sizeLine ∧ NwL (xs ++ ys) H Q
theorem op_catQ {X : Cx} : OpR X (binaryOp .Add) (rCatQ X.K) := by
  intro pins s σ H x y v u Q I rx ry h
  obtain ⟨a, b, xs, ys, rfl, rfl, ha, hb, hz, q⟩ := h
  cases rx
  cases ry
  obtain ⟨its, r, p1, z1⟩ := I.list ha
  obtain ⟨its2, r2, p2, z2⟩ := I.list hb
  have hl1 := r.length
  have hl2 := r2.length
  obtain ⟨⟨cls, dd, data, sl⟩, ho, hc, n, hd⟩ := p1.isList
  obtain ⟨⟨cls2, dd2, data2, sl2⟩, ho2, hc2, n2, hd2⟩ := p2.isList
  simp only at hc hd hc2 hd2
  subst hc hd hc2 hd2
  have e : its.toArray ++ its2.toArray = (its ++ its2).toArray := by simp
  refine concat_meets ⟨_, ho, rfl⟩ ⟨_, ho2, rfl⟩ noFill_list_add seq_list_add PySem.F.slot_list_add PySem.F.entry_list_add (PySem.F.args_list_add_2 _ _) (list_addW a b its.toArray its2.toArray n n2 dd dd2 sl sl2 (by rw [List.size_toArray, List.size_toArray]; omega)) ⟨ho, ho2, ?_⟩
  rw [e]
  exact ⟨.ref _, _, I.lnew (t' := s.toks) (r.append r2) (by rw [List.length_append]; omega), rfl, q _ I.fresh⟩
def rSlQ (K : PySem.W.Frag) : V → Option Int → Option Int → Hp → VK → Prop := fun x lo hi H Q => ∃ a xs, x = .ref a ∧ SqL K H a xs ∧ NwL (cutV xs lo hi) H Q
theorem sl_Q {X : Cx} : SlR X (rSlQ X.K) := sl_list
/-- l[lo:hi] -/
def cutL {α : Type} (l : List α) (lo hi : Option Int) : List α := (l.drop (HT.sIx l.length 0 lo)).take (HT.sIx l.length l.length hi - HT.sIx l.length 0 lo)
mutual
/-- as the library's data -/
def pyD : D → PyData
  | .non => .none | .bl b => .bool b | .int i => .int i | .str x => .str x | .lst ds => .list (pyDs ds) | .tup ds => .tuple (pyDs ds) | .dic _ => .dict []
def pyDs : List D → List PyData
  | [] => []
  | d :: ds => pyD d :: pyDs ds
end
mutual
/-- no dict within -/
def flatD : D → Bool
  | .lst ds => flatDs ds | .tup ds => flatDs ds | .dic _ => false | _ => true
def flatDs : List D → Bool
  | [] => true
  | d :: ds => flatD d && flatDs ds
end
/-- == of data -/
def eqD (a b : D) : Bool := PyData.eqv (pyD a) (pyD b)
section
variable {K : PySem.W.Frag} {B B' H H' : Hp}
mutual
theorem Rep.dp (w : Ex B H) : ∀ {v : V} {d : D}, Rep K B v d → flatD d = true → Dp K H v (pyD d)
  | _, _, .non, _ => .non
  | _, _, .bl b, _ => .bl b
  | _, _, .int i, _ => .int i
  | _, _, .str x, _ => .str x
  | _, _, .lst h r, f => .lst (w.l h) (RepL.dp w r f)
  | _, _, .tup h r, f => .tup (w.t h) (RepL.dp w r f)
  | _, _, .dic h r, f => nomatch f
theorem RepL.dp (w : Ex B H) : ∀ {vs : List V} {ds : List D}, RepL K B vs ds → flatDs ds = true → DpAll K H vs (pyDs ds)
  | _, _, .nil, _ => .nil
  | _, _, .cons h t, f => by
    have f' : (flatD _ && flatDs _) = true := f
    rw [Bool.and_eq_true] at f'
    exact .cons (Rep.dp w h f'.1) (RepL.dp w t f'.2)
end
variable {σ : L2.St} {Q : VK} {x y v : V} {d e : D} {p q : Addr} {xs ys : List V} {i j k : Int} {tc te ta tb : TE} {lo hi : Option Int} {to tu : TO}
/-- what may be compared by == here -/
def okEq (d e : D) : Prop := flatD d = true ∧ flatD e = true ∧ SeqAt.shaped (pyD d) = true ∧ SeqAt.shaped (pyD e) = true
instance (d e : D) : Decidable (okEq d e) := by unfold okEq; infer_instance
theorem h_eqD (w : Ex B H) (rx : Rep K B x d) (ry : Rep K B y e) (o : okEq d e) (h : Q (.bl (eqD d e)) H) : rEqD K x y H Q := ⟨_, _, rx.dp w o.1, ry.dp w o.2.1, o.2.2.1, o.2.2.2, h⟩
theorem h_neD (w : Ex B H) (rx : Rep K B x d) (ry : Rep K B y e) (o : okEq d e) (h : Q (.bl (!eqD d e)) H) : rNeD K x y H Q := ⟨_, _, rx.dp w o.1, ry.dp w o.2.1, o.2.2.1, o.2.2.2, h⟩
theorem h_cat (s1 : SqL K H p xs) (s2 : SqL K H q ys) (hz : xs.length + ys.length ≤ sizeLine) (h : NwL (xs ++ ys) H Q) : rCatQ K (.ref p) (.ref q) H Q := ⟨p, q, xs, ys, rfl, rfl, s1, s2, hz, h⟩
theorem RepL.cat {α : Type} [Enc α] {l l2 : List α} (r : RepL K B xs (l.map enc)) (r2 : RepL K B ys (l2.map enc)) : RepL K B (xs ++ ys) ((l ++ l2).map enc) := by
  rw [List.map_append]; exact r.append r2
theorem RepL.take : ∀ {vs : List V} {ds : List D} (n : Nat), RepL K B vs ds → RepL K B (vs.take n) (ds.take n)
  | _, _, 0, _ => .nil
  | _, _, _ + 1, .nil => .nil
  | _, _, n + 1, .cons r t => .cons r (RepL.take n t)
theorem RepL.drop : ∀ {vs : List V} {ds : List D} (n : Nat), RepL K B vs ds → RepL K B (vs.drop n) (ds.drop n)
  | _, _, 0, r => r
  | _, _, _ + 1, .nil => .nil
  | _, _, n + 1, .cons _ t => RepL.drop n t
theorem RepL.cut {α : Type} [Enc α] {l : List α} (r : RepL K B xs (l.map enc)) (lo hi : Option Int) : RepL K B (cutV xs lo hi) ((cutL l lo hi).map enc) := by
  unfold cutV cutL
  rw [List.map_take, List.map_drop, r.length, List.length_map]
  exact (r.drop _).take _
theorem h_sl {r : V → Option Int → Option Int → Hp → VK → Prop} (h : te σ H fun x H1 => to σ H1 fun l H2 => tu σ H2 fun u H3 => r x l u H3 Q) : tSl r te to tu σ H Q := h
theorem h_part {N : Option Int → Hp → Prop} (h : te σ H fun x H1 => ∃ i, x = .int i ∧ N (some i) H1) : tPart te σ H N := h
theorem h_isI {f : Int → Prop} (h : f i) : ∃ j, V.int i = .int j ∧ f j := ⟨i, rfl, h⟩
theorem h_nopart {N : Option Int → Hp → Prop} (h : N none H) : tNoPart σ H N := h
theorem h_slQ (s : SqL K H p xs) (h : NwL (cutV xs lo hi) H Q) : rSlQ K (.ref p) lo hi H Q := ⟨p, xs, rfl, s, h⟩
theorem h_ch {g g' : Int → Int → Bool} (hc : ∀ Q : VK, Q (.int k) H → tc σ H Q) (h : Q (.bl (g i j && g' j k)) H) :
    rI0 (fun i j => .bl (g i j)) (.int i) (.int j) H (fun z H3 => ∃ c, z = .bl c ∧ (if c = true then tc σ H3 fun w' H4 => rI0 (fun i j => .bl (g' i j)) (.int j) w' H4 Q else Q (.bl false) H3)) := by
  refine ⟨i, j, rfl, rfl, g i j, rfl, ?_⟩
  cases e : g i j with
  | true =>
    refine h_iteT (hc _ ?_)
    rw [e, Bool.true_and] at h
    exact ⟨j, k, rfl, rfl, h⟩
  | false =>
    rw [e, Bool.false_and] at h
    exact h_iteF h
end
/-- f(k = v, ..) -/
def tCallK0 (sp : Sp) (gV : List V → List V) (E : XK) (tk : TA) : TE := fun σ H Q => tk σ H fun zs H2 => sp (gV zs) H2 Q E
theorem pe_callK0 {X : Cx} {CX : CXT} {k : Nat} {f : Addr} {fd : FuncData} {ps ks : List Str} {sp : Sp} {E : XK} {x : Str} {p pos : Pos} {kws : List Keyword} {tk : TA} {g : List Value → List Value → List Value} {gV : List V → List V → List V}
    (F : FnOk X.prog X.w X.K X.mg X.base CX k f fd ps sp) (hr : Room k X.A) (hg : Gl X x) (hm : X.mg x = some (.ref f)) (hk : PySem.W.keepIn X.K (.ref f) = true) (hb : KBinds X.K fd ps ks g gV) (hx : Passes CX X E)
    (hkw : PK X kws tk) (hall : (backToKw pos (keywordEach kws X.env)).all (·.1.isSome) = true := by rfl) (hks : (backToKw pos (keywordEach kws X.env)).filterMap (·.1) = ks := by rfl)
    (hdb : (x == ("__debug__" : Str)) = false := by decide)
    (hpl : ((backTo pos (starEach [] X.env)).any (·.1) || (backToKw pos (keywordEach kws X.env)).any (·.1.isNone)) = false := by rfl) :
    PE X (.Call (.Name x p) [] kws pos) (tCallK0 sp (gV []) E tk) := by
  refine ⟨fun pins s σ H Q I h => ?_⟩
  refine wpAny_Call_Name_kw (ld_glob I hg hm ?_ hdb)
  refine PySem.W.callWith_KW0 (h₀ := X.base) I.ok.mod.kin hk hall ?_ hpl
  refine thn (hkw.run pos pins s σ H _ I h) fun ws s2 ⟨zs, H2, I2, rz, q2⟩ => ⟨I2.kIn, ?_⟩
  rw [hks]
  exact run_fnk F hr hb hx I2 .nil rz q2
theorem h_callK0 {σ : L2.St} {H : Hp} {Q : VK} {sp : Sp} {gV : List V → List V} {E : XK} {tk : TA} (h : tk σ H fun zs H2 => sp (gV zs) H2 Q E) : tCallK0 sp gV E tk σ H Q := h
theorem h_callK {σ : L2.St} {H : Hp} {Q : VK} {sp : Sp} {gV : List V → List V → List V} {E : XK} {t tk : TA} (h : t σ H fun vs H1 => tk σ H1 fun zs H2 => sp (gV vs zs) H2 Q E) : tCallK sp gV E t tk σ H Q := h
theorem hu64_of {A : Around} {k : Nat} (hr : Room k A) : A.units + 64 < cLine := Nat.lt_of_le_of_lt (Nat.add_le_add_left (by decide : 64 ≤ 64) _) hr.units

/-! ### dicts as data -/
section
variable {K : PySem.W.Frag} {B H : Hp} {σ : L2.St} {Q : VK} {tk tv : TE} {v : V} {d : D} {i : Int} {p : Addr} {xs : List V}
theorem h_disp1I (hk : ∀ (H' : Hp) (Q : VK), Q (.int i) H' → tk σ H' Q) (hv : ∀ (H' : Hp) (Q : VK), Q v H' → tv σ H' Q) (w : Ex B H) (rv : Rep K B v d)
    (h : ∀ p B' H', Stp [] B H B' H' → Rep K B' (.ref p) (.dic [(.inl i, d)]) → Q (.ref p) H') : tDisp [(tk, tv)] σ H Q := fun p hp => by
  show tk σ (upd H p (.dK [])) _
  refine hk _ _ (hv _ _ ⟨upd_same, [(.inl i, v)], rfl, (by show 1 ≤ 15; decide), ?_⟩)
  rw [upd_upd]
  have hb := w.none hp
  exact h p _ _ (Stp.new w hp) (.dic upd_same (.cons (rv.mono (Ex.new hb)) .nil))
theorem h_dnew (w : Ex B H) (h : ∀ p B' H', Stp [] B H B' H' → Rep K B' (.ref p) (.dic []) → Q (.ref p) H') : tDNewK σ H Q := fun p hp => h p _ _ (Stp.new w hp) (.dic upd_same .nil)
def rDictP (K : PySem.W.Frag) : List V → Hp → VK → Prop := fun xs H Q => ∃ (a : Addr) (ps : List Addr) (kvs : List (Key × V)), xs = [.ref a] ∧ SqL K H a (ps.map V.ref) ∧ Paired (fun p kv => SqT K H p [kV kv.1, kv.2]) ps kvs ∧
    ∀ p, H p = none → Q (.ref p) (upd H p (.dK (mergeK [] kvs)))
theorem cr_dict {X : Cx} (hc : X.calm = true) : CallR X (.type "dict") (rDictP X.K) := call_dictP hc
def vD : V → D
  | .int i => .int i | .bl b => .bl b | .str x => .str x | _ => .non
/-- dict(pairs of ints), as data -/
def dictI (l : List (Tp2 Int Int)) : List (Key × D) := (mergeK [] (l.map fun t => ((Sum.inl t.a : Key), V.int t.b))).map fun kv => (kv.1, vD kv.2)
theorem putK_ints {kvs : List (Key × V)} {k : Key} {j : Int} (h : ∀ kv ∈ kvs, ∃ i, kv.2 = V.int i) : ∀ kv ∈ putK kvs k (V.int j), ∃ i, kv.2 = V.int i := by
  intro kv m
  unfold putK at m
  split at m
  · obtain ⟨q, hq, e⟩ := List.mem_map.mp m
    rw [← e]
    split
    · exact ⟨j, rfl⟩
    · exact h q hq
  · rcases List.mem_append.mp m with m | m
    · exact h kv m
    · rw [List.mem_singleton.mp m]; exact ⟨j, rfl⟩
theorem merge_ints : ∀ {l : List (Tp2 Int Int)} {acc : List (Key × V)}, (∀ kv ∈ acc, ∃ i, kv.2 = V.int i) → ∀ kv ∈ mergeK acc (l.map fun t => ((Sum.inl t.a : Key), V.int t.b)), ∃ i, kv.2 = V.int i
  | [], _, h => h
  | t :: r, acc, h => merge_ints (l := r) (putK_ints h)
theorem RepK.ints : ∀ {kvs : List (Key × V)}, (∀ kv ∈ kvs, ∃ i, kv.2 = V.int i) → RepK K B kvs (kvs.map fun kv => (kv.1, vD kv.2))
  | [], _ => .nil
  | (k, v) :: r, h => by
    obtain ⟨i, e⟩ := h (k, v) List.mem_cons_self
    have e' : v = V.int i := e
    subst e'
    exact .cons (.int i) (RepK.ints fun kv m => h kv (List.mem_cons_of_mem _ m))
theorem pairs_D (w : Ex B H) : ∀ {xs : List V} {l : List (Tp2 Int Int)}, RepL K B xs (l.map enc) → ∃ ps : List Addr, xs = ps.map V.ref ∧ Paired (fun p (kv : Key × V) => SqT K H p [kV kv.1, kv.2]) ps (l.map fun t => ((Sum.inl t.a : Key), V.int t.b))
  | [], [], _ => ⟨[], rfl, .nil⟩
  | _ :: _, [], r => nomatch r
  | [], _ :: _, r => nomatch r
  | v :: vs, t :: l, r => by
    cases r with
    | cons h q =>
      obtain ⟨ps, e, pr⟩ := pairs_D w q
      obtain ⟨p, ys, rfl, hs, hr⟩ := Rep.st w (show Rep K B v (.tup [enc t.a, enc t.b]) from h)
      cases hr with
      | cons h1 t1 =>
        cases t1 with
        | cons h2 t2 =>
          cases t2
          cases h1
          cases h2
          exact ⟨p :: ps, by rw [e]; rfl, .cons hs pr⟩
theorem h_dictP {l : List (Tp2 Int Int)} (w : Ex B H) (s : SqL K H p xs) (r : RepL K B xs (l.map enc)) (h : ∀ p B' H', Stp [] B H B' H' → Rep K B' (.ref p) (.dic (dictI l)) → Q (.ref p) H') : rDictP K [.ref p] H Q := by
  obtain ⟨ps, e, pr⟩ := pairs_D w r
  subst e
  exact ⟨p, ps, _, rfl, s, pr, fun q hq => h q _ _ (Stp.new w hq) (.dic upd_same (RepK.ints (merge_ints fun _ m => nomatch m)))⟩
end
theorem RepL.toD {K : PySem.W.Frag} {B : Hp} {α : Type} [Enc α] {xs : List V} {l : List α} (r : RepL K B xs (l.map enc)) : RepL K B xs ((l.map enc : List D).map enc) := by
  have e : (l.map enc : List D).map enc = l.map enc := List.map_id' _
  rw [e]; exact r
/-- a thing that is an int -/
def asI (d : D) : Res Int := match d with | .int i => .ok i | _ => .stuck
theorem Post.asI {β : Type} {d : D} {k : Int → Res β} {P : β → Prop} {R : Err → Prop} (h : Post ((Y.asI d).bind k) P R) : ∃ i, d = .int i ∧ Post (k i) P R := by
  cases d with
  | int i => exact ⟨i, rfl, h⟩
  | _ => exact h.elim
/-- a pair taken apart -/
def un2 {α β γ : Type} (k : α → β → γ) (p : α × β) : γ := k p.1 p.2
theorem Post.un2 {α β γ : Type} {k : α → β → Res γ} {a : α} {b : β} {P : γ → Prop} {R : Err → Prop} (h : Post (Y.un2 k (a, b)) P R) : Post (k a b) P R := h
/-- a thing that is a list | a tuple -/
def asL (d : D) : Res (List D) := match d with | .lst l => .ok l | _ => .stuck
def asT (d : D) : Res (List D) := match d with | .tup l => .ok l | _ => .stuck
theorem enc_Ds (l : List D) : (l.map enc : List D) = l := List.map_id' _
theorem Post.asL {β : Type} {d : D} {k : List D → Res β} {P : β → Prop} {R : Err → Prop} (h : Post ((Y.asL d).bind k) P R) : ∃ l : List D, d = .lst (l.map enc) ∧ Post (k l) P R := by
  cases d with
  | lst l => exact ⟨l, by rw [enc_Ds], h⟩
  | _ => exact h.elim
theorem Post.asT {β : Type} {d : D} {k : List D → Res β} {P : β → Prop} {R : Err → Prop} (h : Post ((Y.asT d).bind k) P R) : ∃ l : List D, d = .tup (l.map enc) ∧ Post (k l) P R := by
  cases d with
  | tup l => exact ⟨l, by rw [enc_Ds], h⟩
  | _ => exact h.elim
section
variable {K : PySem.W.Frag} {B H : Hp} {Q : VK} {p : Addr} {xs : List V}
theorem RepL.bools : ∀ {xs : List V} {bs : List Bool}, RepL K B xs (bs.map enc) → xs = bs.map V.bl
  | [], [], _ => rfl
  | _ :: _, [], r => nomatch r
  | [], _ :: _, r => nomatch r
  | v :: vs, b :: bs, r => by
    cases r with
    | cons h t =>
      cases h
      rw [RepL.bools t]
      rfl
theorem RepL.intsV : ∀ {xs : List V} {bs : List Int}, RepL K B xs (bs.map enc) → xs = bs.map V.int
  | [], [], _ => rfl
  | _ :: _, [], r => nomatch r
  | [], _ :: _, r => nomatch r
  | v :: vs, b :: bs, r => by
    cases r with
    | cons h t =>
      cases h
      rw [RepL.intsV t]
      rfl
theorem h_all {bs : List Bool} (s : SqL K H p xs) (r : RepL K B xs (bs.map enc)) (h : Q (.bl (bs.all id)) H) : rAll K [.ref p] H Q := ⟨p, bs, rfl, by rw [← r.bools]; exact s, h⟩
theorem h_any {bs : List Bool} (s : SqL K H p xs) (r : RepL K B xs (bs.map enc)) (h : Q (.bl (bs.any id)) H) : rAny K [.ref p] H Q := ⟨p, bs, rfl, by rw [← r.bools]; exact s, h⟩
theorem h_sum {ns : List Int} (s : SqL K H p xs) (r : RepL K B xs (ns.map enc)) (h : Q (.int ns.sum) H) : rSum K [.ref p] H Q := ⟨p, ns, rfl, by rw [← r.intsV]; exact s, h⟩
end
/-! ### the top -/
/-- the law's promise -/
def spTop (K : PySem.W.Frag) : Sp := fun vs H Q _ => ∃ (a : Addr) (ns : List Int), vs = [.ref a] ∧ ns.length ≤ 63 ∧ SqL K H a (ns.map V.int) ∧ ∀ H', Q (.bl true) H'
theorem top_of {K : PySem.W.Frag} {m : List Int → Res Bool} (hm : ∀ ns : List Int, ns.length ≤ 63 → m ns = .ok true) {vs : List V} {H : Hp} {Q : VK} {E : XK} (h : spTop K vs H Q E) :
    ∃ (B : Hp) (v : V) (a : List Int), Ex B H ∧ vs = [v] ∧ Bor K B H [] v (a.map enc) ∧ Post (m a) (fun r => Ret K [] B H (enc r) Q) (fun _ => False) := by
  obtain ⟨a, ns, e, hl, hs, k⟩ := h
  refine ⟨H, .ref a, ns, Ex.refl H, e, ⟨a, _, rfl, ?_, RepL.ints ns⟩, ?_⟩
  · rcases hs with hs | hs
    · exact .inl ⟨hs, fun z => nomatch z⟩
    · exact .inr hs
  · rw [hm ns hl]
    refine ⟨fun v B' H' st r => ?_⟩
    cases r
    exact k H'
theorem walk_top {l : PySem.W.OpenLaw} {q : Program} {loose : List Str} {XP : (Str → Option Value) → Heap → Prop} {YP : World → Heap → Prop} {d : DefRec} {K : Params → PySem.W.Frag} {x : Str} {k : Nat} (hn : l.most = some 63) (hdf : d.params.defaults = [])
    (hr : Room k callerA) (hY : ∀ (w : World) (h : Heap), YP w h → (K w.params).In h)
    (F : ∀ (w : World) (mg : Str → Option Value) (fa : Addr) (h : Heap), (K w.params).In h → h.Ns mainGlobals mg → mg d.name = some (.ref fa) →
      ∃ fd : FuncData, (∀ (s : Shared) (u : Value), BindsTo s fd ⟨[u], []⟩ [(x, u)]) ∧ ∀ base : Heap, (K w.params).In base → base.Ns mainGlobals mg → FnOk l.prog w (K w.params) mg base CX0 k fa fd [x] (spTop (K w.params))) :
    PySem.W.WalkO q loose XP YP l.row.toRowW d [] (fun f vs => PySem.call f vs) :=
  L2.walk_of (n := 63) (k := k) (x := x) (CX := fun _ => CX0) (sp := fun w => spTop (K w.params)) hn (by decide) hdf hr hY F (fun _ _ a ns hl _ hS => ⟨a, ns, rfl, hl, hS, fun _ => rfl⟩) fun _ _ _ _ _ z => z
/-- how its arguments bind by keywords -/
theorem _root_.L2.Fun.kb {K : PySem.W.Frag} {x qual : Str} {st : Stmt} {f : Addr} {fd : FuncData} {ps ks : List Str} {g : List Value → List Value → List Value} {gV : List V → List V → List V} (F : Fun K x qual st f fd)
    (h : ∀ (kV doc pm : Value) (an : Option Addr) (cdv ct : Value) (us ws : List Value), (g us ws).length = ps.length → bindArgs (PySem.W.fnOf x qual (defArgs st) (defBody st) (defScope st) .none kV doc pm an cdv ct) ⟨us, ks.zip ws⟩ = pure (ps.zip (g us ws)))
    (r : ∀ {vs : List V} {us : List Value} {zs : List V} {ws : List Value}, Vals vs us → Vals zs ws → Vals (gV vs zs) (g us ws)) : KBinds K fd ps ks g gV := by
  obtain ⟨oc, od, kV, doc, pm, an, cdv, ct, osl, rfl, lk, hcd⟩ := F.ex
  exact ⟨fun s us ws _ hl => .of_eq (h kV doc pm an cdv ct us ws hl), r⟩

/-! ### while -/
def whileR {S R : Type} : Nat → S → (S → Res (Fl S R)) → Res (Fl S R)
  | 0, _, _ => .stuck
  | n + 1, s, g => (g s).bind fun r => match r with | .nx s' => whileR n s' g | r => .ok r
section
variable {K : PySem.W.Frag} {σ : L2.St} {H : Hp} {Q : VK} {tb t : TS} {c : TT} {D' : Ends} {S β : Type} {P : β → Prop} {E : Err → Prop}
theorem h_while {n : Nat} {s0 : S} {f : S → Res (Fl S β)} {k : S → Res β} (hP : Post ((whileR n s0 f).bind (afterR k)) P E) (J : S → L2.St → Hp → Prop) (h0 : J s0 σ H)
    (hb : ∀ (N : L2.St → Hp → Prop) (C : (L2.St → Hp → Prop) → Prop) (T : Fl S β → Prop) s σ' H', J s σ' H' → C N → (∀ s' σ2 H2, J s' σ2 H2 → T (.nx s') → N σ2 H2) → (∀ r, T (.rt r) → P r) → (∀ s' σ2 H2, J s' σ2 H2 → T (.bk s') → D'.nx σ2 H2) → Post (f s) T E →
      c σ' H' fun b H1 => if b = true then ∃ N, C N ∧ tb { D' with nx := N, ct := N, bk := D'.nx } σ' H1 else D'.nx σ' H1)
    (hd : ∀ s σ' H', J s σ' H' → Post (k s) P E → D'.nx σ' H') : tWhile c tb D' σ H := by
  refine ⟨fun m σ' H' => ∃ s, J s σ' H' ∧ Post (whileR m s f) (fun a => Post (afterR k a) P E) E, ⟨n, s0, h0, hP.bind⟩, ?_⟩
  rintro m σ' H' ⟨s, j, q⟩
  cases m with
  | zero => exact Post.elim q
  | succ m =>
    refine hb (fun σ2 H2 => ∃ s', J s' σ2 H2 ∧ Post (whileR m s' f) (fun a => Post (afterR k a) P E) E) (fun N => ∀ σ2 H2, N σ2 H2 → ∃ m', m' < m + 1 ∧ ∃ s, J s σ2 H2 ∧ Post (whileR m' s f) (fun a => Post (afterR k a) P E) E)
      (fun r => match r with | .nx s' => Post (whileR m s' f) (fun a => Post (afterR k a) P E) E | .rt r => Post (.ok r) P E | .bk s' => Post (k s') P E) s σ' H' j (fun σ2 H2 h => ⟨m, Nat.lt_succ_self m, h⟩)
      (fun s' σ2 H2 j2 t2 => ⟨s', j2, t2⟩) (fun r t2 => Post.ok t2) (fun s' σ2 H2 j2 t2 => hd s' σ2 H2 j2 t2) ?_
    refine (Post.bind q).mono (fun r q => ?_) fun _ q => q
    cases r with
    | nx s' => exact q
    | rt r => exact q.ok
    | bk s' => exact q.ok
theorem h_par {i j : Nat} {ta : TA} (h : ta σ H fun vs H1 => ∃ v w, vs = [v, w] ∧ D'.nx ((σ.set i (some v)).set j (some w)) H1) : tPar i j ta D' σ H := h
theorem h_two {N : V → V → Prop} {x y : V} (h : N x y) : ∃ v w, [x, y] = [v, w] ∧ N v w := ⟨x, y, rfl, h⟩

/-! ### errors -/
def tryR {α : Type} (m : Res α) (h : Err → Res α) : Res α := match m with | .ok a => .ok a | .err e => h e | .stuck => .stuck
theorem Post.tr {α : Type} {m : Res α} {h : Err → Res α} {P : α → Prop} {R : Err → Prop} (q : Post (tryR m h) P R) : Post m P (fun e => Post (h e) P R) := by
  obtain ⟨q⟩ := q
  refine ⟨?_⟩
  cases m
  · exact q
  · exact ⟨q⟩
  · exact q
theorem h_tryJ {m : Res (Fl S β)} {h : Err → Res (Fl S β)} {k : S → Res β} (hP : Post ((tryR m h).bind (afterR k)) P E) (J : S → L2.St → Hp → Prop)
    (h1 : ∀ (N : L2.St → Hp → Prop) (T : Fl S β → Prop), (∀ s σ' H', J s σ' H' → T (.nx s) → N σ' H') → (∀ r, T (.rt r) → P r) → Post m T (fun e => Post (h e) T E) → t { D' with nx := N } σ H)
    (h2 : ∀ s σ' H', J s σ' H' → Post (k s) P E → D'.nx σ' H') : t D' σ H := by
  refine h1 _ (fun a => Post (afterR k a) P E) (fun s σ' H' j q => h2 s σ' H' j q) (fun r q => (q : Post (.ok r) P E).ok) ?_
  exact (Post.bind hP).tr
/-- what the written part says of an error's class -/
structure ExcT (K : PySem.W.Frag) (mg : Str → Option Value) (nm : Str) (C : Addr) : Prop where
  g : mg nm = some (.ref C)
  ec : ExcC K C
  ty : PySem.W.typeIn K (.ref C) = some (.type "type")
  kp : PySem.W.keepIn K (.ref C) = true
  ve : PySem.W.subIn K (.ref C) (.type "ValueError") = some true
  is : PySem.W.isClsIn K C = true
  self : PySem.W.subIn K (.ref C) (.ref C) = some true
/-- an error that is raised with a text alone -/
structure ExcR (K : PySem.W.Frag) (mg : Str → Option Value) (nm : Str) (C : Addr) : Prop extends ExcT K mg nm C where
  ex : PySem.W.excIn K C [.type "ValueError", .type "Exception", .type "BaseException", .type "object"] "ValueError.__new__" = true
theorem ExcT.names {X : Cx} {nm : Str} {C : Addr} (T : ExcT X.K X.mg nm C) (hg : Gl X nm) (hd : (nm == ("__debug__" : Str)) = false) : Names X nm (.ref C) := ⟨hg, hd, .inl T.g⟩
theorem ExcT.exm {mg : Str → Option Value} {nm : Str} {C : Addr} (T : ExcT K mg nm C) {cls : Value} {b : Bool} (h : PySem.W.subIn K cls (.ref C) = some b) : PySem.W.exmOne K cls (.ref C) = some b := PySem.W.exm_ref T.ec.hs T.ec.hd T.ty h
theorem ExcT.kit {mg : Str → Option Value} {nm : Str} {C C2 : Addr} (T : ExcT K mg nm C) {b : Bool} (h : PySem.W.subIn K (.ref C2) (.ref C) = some b) : PySem.W.kitOne K (.ref C2) (.ref C) = some b := by
  unfold PySem.W.kitOne
  by_cases e : (Value.ref C2 == Value.ref C) = true
  · rw [if_pos e]
    have e2 : C2 = C := Value.ref.inj (beq_iff_eq.mp e)
    subst e2
    exact T.self.symm.trans h
  · rw [if_neg e]
    have h2 : (PySem.W.clsIn K C).isSome = true := T.is
    show (if ((PySem.W.clsIn K C).isSome && PySem.W.typeIn K (.ref C) == some (.type "type")) = true then PySem.W.subIn K (.ref C2) (.ref C) else none) = some b
    rw [if_pos (by rw [h2, T.ty] <;> rfl)]
    exact h
theorem ExcT.kitVE {mg : Str → Option Value} {nm : Str} {C : Addr} (T : ExcT K mg nm C) : PySem.W.kitOne K (.ref C) (.type "ValueError") = some true := by
  unfold PySem.W.kitOne
  rw [if_neg (by simp)]
  show (if PySem.W.kitMeta "ValueError" = true then PySem.W.subIn K (.ref C) (.type "ValueError") else none) = some true
  rw [if_pos (by decide +kernel)]
  exact T.ve
def tIsE (K : PySem.W.Frag) (a : Addr) (cls : Value) (d : Option Addr) (targs : TA) : TE := fun σ H Q => ∃ Dc, cls = .ref Dc ∧ d = none ∧ ExcC K Dc ∧ tCB (rIsE K Dc a) targs σ H Q
theorem pe_isE {X : Cx} {e : Expr} {a : Addr} {cls : Value} {d : Option Addr} {targs : TA} (hK : X.K = K) (h : ∀ Dc, cls = .ref Dc → d = none → ExcC K Dc → PE X e (tCB (rIsE K Dc a) targs)) : PE X e (tIsE K a cls d targs) :=
  ⟨fun pins s σ H Q I q => by
    obtain ⟨Dc, e1, e2, ec, q⟩ := q
    exact (h Dc e1 e2 ec).run pins s σ H Q I q⟩
theorem h_isE {a C : Addr} {targs : TA} {mg : Str → Option Value} {nm : Str} (T : ExcT K mg nm C) (h : targs σ H fun vs H1 => rIsE K C a vs H1 Q) : tIsE K a (.ref C) none targs σ H Q := ⟨C, rfl, rfl, T.ec, h⟩
theorem h_isER {a C C2 : Addr} {b : Bool} (h : PySem.W.kitOne K (.ref C) (.ref C2) = some b) (q : Q (.bl b) H) : rIsE K C a [.ref a, .ref C2] H Q := ⟨.ref C2, .ref C2, b, rfl, fun _ r => r, h, q⟩
theorem h_isEB {a C : Addr} {n : String} {b : Bool} (h : PySem.W.kitOne K (.ref C) (.type n) = some b) (q : Q (.bl b) H) : rIsE K C a [.ref a, .ty n] H Q := ⟨.ty n, .type n, b, rfl, fun _ r => r, h, q⟩
/-- the clause of a try meets the error -/
theorem h_wAs {C S' : Addr} {i : Nat} {ts : Addr → Value → Option Addr → TS} {Wout : WX} {mg : Str → Option Value} {nm : Str} (T : ExcT K mg nm S') (hs : PySem.W.subIn K (.ref C) (.ref S') = some true)
    (h : ∀ a, H a = none → ts a (.ref C) none { nx := fun σ' H' => D'.nx (σ'.set i none) H', rt := D'.rt, bk := fun σ' H' => D'.bk (σ'.set i none) H', ct := fun σ' H' => D'.ct (σ'.set i none) H' } (σ.set i (some (.ref a))) H) :
    wAs K (.ref S') i ts Wout D' (.ref C) none σ H := ⟨true, T.exm hs, fun _ a ha => h a ha, fun q => nomatch q⟩
theorem h_wOnly {C S' : Addr} {ts : Addr → Value → Option Addr → TS} {Wout : WX} {mg : Str → Option Value} {nm : Str} (T : ExcT K mg nm S') (hs : PySem.W.subIn K (.ref C) (.ref S') = some true)
    (h : ∀ a, H a = none → ts a (.ref C) none D' σ H) : wOnly K (.ref S') ts Wout D' (.ref C) none σ H := ⟨true, T.exm hs, fun _ a ha => h a ha, fun q => nomatch q⟩
end

/-! ### a try by its name -/
def tTryA (K : PySem.W.Frag) (c : Value) (i : Nat) (ts : Addr → Value → Option Addr → TS) (Wout : WX) (tb : WX → TS) : TS := fun D σ H => tb (wAs K c i ts Wout D) D σ H
def tTryO (K : PySem.W.Frag) (c : Value) (ts : Addr → Value → Option Addr → TS) (Wout : WX) (tb : WX → TS) : TS := fun D σ H => tb (wOnly K c ts Wout D) D σ H
section
variable {X : Cx} {n x : Str} {c : Value} {i : Nat} {body suite : List Stmt} {b₀ : Stmt} {np pos pos' : Pos} {tb : WX → TS} {ts : Addr → Value → Option Addr → TS} {Wout : WX} {D' : Ends} {σ : L2.St} {H : Hp} {K : PySem.W.Frag}
theorem ps_tryA (hs : X.stack = X.env :: X.outer) (hf : X.env.frame = some X.env.locals) (hN : X.N.Nodup) (hi : X.N[i]? = some n) (hln : X.env.kindOf n = some .local) (hc : Names X x c) (tk : Takes X Wout)
    (hb : ∀ (W : WX) (pn : List (Addr × Obj)) (xe : Value → Shared → Prop), Takes (X.tr pn xe) W → PassesOwn (model X.prog X.w) X.A X.env xe → PSs (X.tr pn xe) body (tb W))
    (hsu : ∀ (a : Addr) (oe : Obj) (cls : Value) (d : Option Addr) (pn : List (Addr × Obj)), Zc cls d oe → (∃ vs, oe.data = .fields vs) → PSs (X.suite a ((a, oe) :: pn)) (b₀ :: suite) (ts a cls d)) (hK : X.K = K := by rfl) :
    PS X (.Try body [.ExceptHandler (some (.Name x np)) (some n) (b₀ :: suite) pos'] [] [] pos) (tTryA K c i ts Wout tb) := hK ▸ ps_try_as hs hf hN hi hln hc tk hb hsu
theorem ps_tryO (hs : X.stack = X.env :: X.outer) (hf : X.env.frame = some X.env.locals) (hc : Names X x c) (tk : Takes X Wout)
    (hb : ∀ (W : WX) (pn : List (Addr × Obj)) (xe : Value → Shared → Prop), Takes (X.tr pn xe) W → PassesOwn (model X.prog X.w) X.A X.env xe → PSs (X.tr pn xe) body (tb W))
    (hsu : ∀ (a : Addr) (oe : Obj) (cls : Value) (d : Option Addr) (pn : List (Addr × Obj)), Zc cls d oe → (∃ vs, oe.data = .fields vs) → PSs (X.suite a ((a, oe) :: pn)) (b₀ :: suite) (ts a cls d)) (hK : X.K = K := by rfl) :
    PS X (.Try body [.ExceptHandler (some (.Name x np)) none (b₀ :: suite) pos'] [] [] pos) (tTryO K c ts Wout tb) := hK ▸ ps_try_only hs hf hc tk hb hsu
theorem h_tryA (h : tb (wAs K c i ts Wout D') D' σ H) : tTryA K c i ts Wout tb D' σ H := h
theorem h_tryO (h : tb (wOnly K c ts Wout D') D' σ H) : tTryO K c ts Wout tb D' σ H := h
end
theorem Post.mono2 {α : Type} {m : Res α} {P P' : α → Prop} {R R' : Err → Prop} (h : Post m P R) (hr : ∀ e, R e → R' e) (hp : ∀ a, P a → P' a) : Post m P' R' := h.mono hp hr
theorem boot_ValueError : bootBuiltins "ValueError" = some (.type "ValueError") := by decide +kernel
/-! ### things that are lists or tuples -/
def lenD (d : D) : Res Int := match d with | .lst l => .ok l.length | .tup l => .ok l.length | .str x => .ok x.length | _ => .stuck
section
variable {K : PySem.W.Frag} {B H : Hp} {Q : VK} {v : V} {d : D} {σ : L2.St} {g : TGs}
theorem Post.lenD {β : Type} {k : Int → Res β} {P : β → Prop} {R : Err → Prop} (h : Post ((Y.lenD d).bind k) P R) (hs : ∀ x, d ≠ .str x) : ∃ ds : List D, (d = .lst ds ∨ d = .tup ds) ∧ Post (k ds.length) P R := by
  cases d with
  | lst l => exact ⟨l, .inl rfl, h⟩
  | tup l => exact ⟨l, .inr rfl, h⟩
  | str x => exact absurd rfl (hs x)
  | _ => exact h.elim
theorem h_tupG {n : Nat} {p : Addr} {xs : List V} {N : L2.St → Hp → Prop} (s : SqT K H p xs) (hl : xs.length = n) (h : g xs σ H N) : gTup K n g (.ref p) σ H N := ⟨p, xs, rfl, s, hl, h⟩
theorem h_gcons {t : TG} {u : TGs} {x : V} {xs : List V} {N : L2.St → Hp → Prop} (h : t x σ H fun σ' H' => u xs σ' H' N) : gCons t u (x :: xs) σ H N := ⟨x, xs, rfl, h⟩
theorem h_gnil {N : L2.St → Hp → Prop} (h : N σ H) : gNil [] σ H N := ⟨rfl, h⟩
end

section
variable {K : PySem.W.Frag} {B H : Hp} {Q : VK} {p : Addr} {xs : List V} {d1 d2 d3 d4 d5 : D}
theorem h_lenTl {l : List D} (s : SqT K H p xs) (r : RepL K B xs (l.map enc)) (h : Q (.int l.length) H) : rLenY K [V.ref p] H Q := by
  refine ⟨p, xs, rfl, .inr s, ?_⟩
  rw [show xs.length = l.length from by rw [r.length, List.length_map]]
  exact h
theorem tup2 {x y : V} (hl : xs.length = 2) (h0 : atI xs 0 = some x) (h1 : atI xs 1 = some y) : xs = [x, y] := by
  match xs, hl with
  | [a, b], _ =>
    have e0 : a = x := Option.some.inj h0
    have e1 : b = y := Option.some.inj h1
    rw [e0, e1]
theorem tup3 {x y z : V} (hl : xs.length = 3) (h0 : atI xs 0 = some x) (h1 : atI xs 1 = some y) (h2 : atI xs 2 = some z) : xs = [x, y, z] := by
  match xs, hl with
  | [a, b, c], _ =>
    have e0 : a = x := Option.some.inj h0
    have e1 : b = y := Option.some.inj h1
    have e2 : c = z := Option.some.inj h2
    rw [e0, e1, e2]
theorem tup4 {x y z u : V} (hl : xs.length = 4) (h0 : atI xs 0 = some x) (h1 : atI xs 1 = some y) (h2 : atI xs 2 = some z) (h3 : atI xs 3 = some u) : xs = [x, y, z, u] := by
  match xs, hl with
  | [a, b, c, d], _ =>
    have e0 : a = x := Option.some.inj h0
    have e1 : b = y := Option.some.inj h1
    have e2 : c = z := Option.some.inj h2
    have e3 : d = u := Option.some.inj h3
    rw [e0, e1, e2, e3]
theorem RepL.open2 (r : RepL K B xs [d1, d2]) : ∃ u1 u2, xs = [u1, u2] ∧ Rep K B u1 d1 ∧ Rep K B u2 d2 := by
  cases r with | cons h1 r => cases r with | cons h2 r => cases r; exact ⟨_, _, rfl, h1, h2⟩
theorem RepL.open3 (r : RepL K B xs [d1, d2, d3]) : ∃ u1 u2 u3, xs = [u1, u2, u3] ∧ Rep K B u1 d1 ∧ Rep K B u2 d2 ∧ Rep K B u3 d3 := by
  cases r with | cons h1 r => cases r with | cons h2 r => cases r with | cons h3 r => cases r; exact ⟨_, _, _, rfl, h1, h2, h3⟩
theorem RepL.open4 (r : RepL K B xs [d1, d2, d3, d4]) : ∃ u1 u2 u3 u4, xs = [u1, u2, u3, u4] ∧ Rep K B u1 d1 ∧ Rep K B u2 d2 ∧ Rep K B u3 d3 ∧ Rep K B u4 d4 := by
  cases r with | cons h1 r => cases r with | cons h2 r => cases r with | cons h3 r => cases r with | cons h4 r => cases r; exact ⟨_, _, _, _, rfl, h1, h2, h3, h4⟩
end
/-! ### defs with defaults -/
structure FunV (K : PySem.W.Frag) (x qual : Str) (st : Stmt) (dv : List Value) (f : Addr) (fd : FuncData) : Prop where
  ex : ∃ (oc : Value) (od : Option Addr) (T : Addr) (o : Obj) (n : Nat) (kV doc pm : Value) (an : Option Addr) (cdv ct : Value) (osl : Array (Option Value)),
    fd = PySem.W.fnOf x qual (defArgs st) (defBody st) (defScope st) (.ref T) kV doc pm an cdv ct ∧ K.lookup f = some ⟨oc, od, .func fd, osl⟩ ∧ PySem.W.codeIn K cdv qual = true ∧ K.lookup T = some o ∧ o.data = .seq dv.toArray n
  kp : PySem.W.keepIn K (.ref f) = true
section
variable {P : Program} {w : World} {K : PySem.W.Frag} {mg : Str → Option Value} {base : Heap} {x qual : Str} {st : Stmt} {dv : List Value} {f : Addr} {fd : FuncData} {ps ks : List Str}
theorem funV_mk {oc : Value} {od an oT : Option Addr} {osl sT : Array (Option Value)} {kV doc pm cdv ct cT : Value} {T : Addr} {n : Nat} (l : K.lookup f = some ⟨oc, od, .func (PySem.W.fnOf x qual (defArgs st) (defBody st) (defScope st) (.ref T) kV doc pm an cdv ct), osl⟩)
    (c : PySem.W.codeIn K cdv qual = true) (k : PySem.W.keepIn K (.ref f) = true) (lT : K.lookup T = some ⟨cT, oT, .seq dv.toArray n, sT⟩) : FunV K x qual st dv f (PySem.W.fnOf x qual (defArgs st) (defBody st) (defScope st) (.ref T) kV doc pm an cdv ct) :=
  ⟨⟨oc, od, T, _, n, kV, doc, pm, an, cdv, ct, osl, rfl, l, c, lT, rfl⟩, k⟩
theorem FunV.okX {N : List Str} {k : Nat} {sp : Sp} (F : FunV K x qual st dv f fd) (S : FnScope N ps (defScope st)) (len : ∀ vs H Q E, sp vs H Q E → vs.length = ps.length)
    (hbody : ∀ (cdv : Value) (A : Around) (outer : List Env) (s : Shared) (H : Hp) (vs : List V) (Q : VK) (E : XK), Room k (A.deeper (envOfC qual (defScope st) s.heap.objs.size f cdv)) → sp vs H Q E →
      ∃ t, PSs (cxOf (L2.CX P w) P w K mg base N qual (defScope st) f cdv A outer s H E) (defBody st) t ∧ t { nx := fun _ H' => Q .non H', rt := Q } (start N vs) H) : FnOk P w K mg base (L2.CX P w) (k + 1) f fd ps sp := by
  obtain ⟨oc, od, T, o, n, kV, doc, pm, an, cdv, ct, osl, rfl, lk, hcd, _, _⟩ := F.ex
  exact fn_of lk hcd S len fun A outer s H vs Q E hr hsp => hbody cdv A outer s H vs Q E hr hsp
theorem FunV.ok {N : List Str} {k : Nat} {sp : Sp} (F : FunV K x qual st dv f fd) (S : FnScope N ps (defScope st)) (len : ∀ vs H Q E, sp vs H Q E → vs.length = ps.length)
    (hbody : ∀ (cdv : Value) (A : Around) (outer : List Env) (s : Shared) (H : Hp) (vs : List V) (Q : VK) (E : XK), Room k (A.deeper (envOfC qual (defScope st) s.heap.objs.size f cdv)) → sp vs H Q E →
      ∃ t, PSs (cxOf CX0 P w K mg base N qual (defScope st) f cdv A outer s H E).nox (defBody st) t ∧ t { nx := fun _ H' => Q .non H', rt := Q } (start N vs) H) : FnOk P w K mg base CX0 (k + 1) f fd ps sp := by
  obtain ⟨oc, od, T, o, n, kV, doc, pm, an, cdv, ct, osl, rfl, lk, hcd, _, _⟩ := F.ex
  refine fn_of lk hcd S len fun A outer s H vs Q E hr hsp => ?_
  obtain ⟨t, h, q⟩ := hbody cdv A outer s H vs Q E hr hsp
  exact ⟨t, h.nox, q⟩
/-- n values are written, the defaults behind the first j fill up -/
theorem FunV.binds (F : FunV K x qual st dv f fd) (n j : Nat) (hn : n + (dv.length - j) = ps.length)
    (h : ∀ (T : Addr) (kV doc pm : Value) (an : Option Addr) (cdv ct : Value) (us : List Value), us.length = n →
      ∃ k, bindArgs (PySem.W.fnOf x qual (defArgs st) (defBody st) (defScope st) (.ref T) kV doc pm an cdv ct) ⟨us, []⟩ = seqItems? (.ref T) >>= k ∧ k (some dv.toArray) = pure (ps.zip (us ++ dv.drop j))) : Binds K fd ps (dv.drop j) := by
  obtain ⟨oc, od, T, o, m, kV, doc, pm, an, cdv, ct, osl, rfl, lk, hcd, lT, oT⟩ := F.ex
  refine fun s us X hlen => ?_
  have l2 : us.length = n := by
    rw [List.length_append, List.length_drop] at hlen
    omega
  obtain ⟨k, e1, e2⟩ := h T kV doc pm an cdv ct us l2
  refine BindsTo.of_looks fun M => ?_
  rw [e1]
  exact looks_items X lT oT (.of_pure e2)
theorem FunV.kb {g : List Value → List Value → List Value} {gV : List V → List V → List V} (F : FunV K x qual st dv f fd)
    (h : ∀ (T : Addr) (kV doc pm : Value) (an : Option Addr) (cdv ct : Value) (us ws : List Value), (g us ws).length = ps.length → ∃ k, bindArgs (PySem.W.fnOf x qual (defArgs st) (defBody st) (defScope st) (.ref T) kV doc pm an cdv ct) ⟨us, ks.zip ws⟩ = seqItems? (.ref T) >>= k ∧ k (some dv.toArray) = pure (ps.zip (g us ws)))
    (r : ∀ {vs : List V} {us : List Value} {zs : List V} {ws : List Value}, Vals vs us → Vals zs ws → Vals (gV vs zs) (g us ws)) : KBinds K fd ps ks g gV := by
  obtain ⟨oc, od, T, o, m, kV, doc, pm, an, cdv, ct, osl, rfl, lk, hcd, lT, oT⟩ := F.ex
  refine ⟨fun s us ws X hl => ?_, r⟩
  obtain ⟨k, e1, e2⟩ := h T kV doc pm an cdv ct us ws hl
  refine BindsTo.of_looks fun M => ?_
  rw [e1]
  exact looks_items X lT oT (.of_pure e2)
end
/-! ### // by what may be negative -/
def CDivZ (_ j : Int) : Prop := j ≠ 0 ∧ j.natAbs.log2 < 9000
instance {i j : Int} : Decidable (CDivZ i j) := inferInstanceAs (Decidable (_ ∧ _))
theorem op_fdivZ {X : Cx} : OpR X (binaryOp .FloorDiv) (rI CDivZ fun i j => .int (Int.fdiv i j)) := opI fun i j _ _ _ _ _ hc q => floordiv_int hc.1 q (.inl (PyProof.noPylong_of_log2 hc.2))
/-! ### x is None -/
def isNonD : D → Bool | .non => true | _ => false
def rIsN : V → V → Hp → VK → Prop := fun x y H Q => y = .non ∧ Q (.bl (decide (x = .non))) H
def rNotN : V → V → Hp → VK → Prop := fun x y H Q => y = .non ∧ Q (.bl (!decide (x = .non))) H
theorem op_isNn {X : Cx} : OpR X (compareOp .Is) rIsN := op_isN
theorem op_notNn {X : Cx} : OpR X (compareOp .IsNot) rNotN := op_notN
section
variable {K : PySem.W.Frag} {B H : Hp} {Q : VK} {v : V} {d : D}
theorem Rep.isNon (r : Rep K B v d) : decide (v = .non) = isNonD d := by
  cases r <;> rfl
theorem h_isN (r : Rep K B v d) (h : Q (.bl (isNonD d)) H) : rIsN v .non H Q := ⟨rfl, by rw [r.isNon]; exact h⟩
theorem h_notN (r : Rep K B v d) (h : Q (.bl (!isNonD d)) H) : rNotN v .non H Q := ⟨rfl, by rw [r.isNon]; exact h⟩
end
/-! ### bool + bool, comparisons of lists, xs[::-1], xs.pop(i) -/
theorem int_add_bb (a b : Bool) : Gives (Builtin.«int.__add__» ⟨[.bool a, .bool b], []⟩) (.int ((if a = true then (1 : Int) else 0) + (if b = true then (1 : Int) else 0))) :=
  .of_wp fun M A E s Q h => by obtain ⟨hp, g, d, tk, os⟩ := s; wp_walk; exact ⟨_, rfl, h⟩
def rAddBB : V → V → Hp → VK → Prop := fun x y H Q => ∃ a b, x = .bl a ∧ y = .bl b ∧ Q (.int (b2z a + b2z b)) H
theorem op_addBB {X : Cx} : OpR X (binaryOp .Add) rAddBB := by
  intro pins s σ H x y v u Q I rx ry h
  obtain ⟨a, b, rfl, rfl, q⟩ := h
  cases rx
  cases ry
  exact binaryOp_gives (op := .Add) (T := "bool") rfl rfl F.fills_bool_add F.slot_bool_add F.entry_int_add (F.args_int_add_2 _ _) (int_add_bb a b) trivial ⟨.int (b2z a + b2z b), H, I.tok _, ⟨_, rfl⟩, q⟩
def rAddIB : V → V → Hp → VK → Prop := fun x y H Q => ∃ i k, x = .int i ∧ y = .bl k ∧ Q (.int (i + b2i k)) H
theorem op_addIB {X : Cx} : OpR X (binaryOp .Add) rAddIB := op_add_ib
section
variable {K : PySem.W.Frag} {B B' H H' : Hp} {σ : L2.St} {Q : VK} {x y v : V} {d e : D} {p q : Addr} {xs ys : List V} {te : TE}
theorem h_addBB {a b : Bool} (h : Q (.int (b2z a + b2z b)) H) : rAddBB (.bl a) (.bl b) H Q := ⟨a, b, rfl, rfl, h⟩
theorem h_addIB {i : Int} {k : Bool} (h : Q (.int (i + b2z k)) H) : rAddIB (.int i) (.bl k) H Q := ⟨i, k, rfl, rfl, by cases k <;> exact h⟩
/-- what may be compared as data -/
def Cmp (K : PySem.W.Frag) (H : Hp) (v : V) (d : D) : Prop := flatD d = true → Dp K H v (pyD d)
theorem Rep.cp (w : Ex B H) (r : Rep K B v d) : Cmp K H v d := r.dp w
theorem SqL.cp {ds : List D} (w : Ex B H) (s : SqL K H p xs) (r : RepL K B xs ds) : Cmp K H (.ref p) (.lst ds) := fun f => .lst s (RepL.dp w r f)
theorem h_eqC (rx : Cmp K H x d) (ry : Cmp K H y e) (o : okEq d e) (h : Q (.bl (eqD d e)) H) : rEqD K x y H Q := ⟨_, _, rx o.1, ry o.2.1, o.2.2.1, o.2.2.2, h⟩
theorem h_neC (rx : Cmp K H x d) (ry : Cmp K H y e) (o : okEq d e) (h : Q (.bl (!eqD d e)) H) : rNeD K x y H Q := ⟨_, _, rx o.1, ry o.2.1, o.2.2.1, o.2.2.2, h⟩
/-- xs[::-1] -/
theorem h_revL (h : te σ H fun x H1 => ∃ a xs, x = .ref a ∧ SqL K H1 a xs ∧ NwL xs.reverse H1 Q) : tRevL K te σ H Q := h
theorem h_revQ (s : SqL K H p xs) (h : NwL xs.reverse H Q) : ∃ a ys, V.ref p = .ref a ∧ SqL K H a ys ∧ NwL ys.reverse H Q := ⟨p, xs, rfl, s, h⟩
theorem RepL.rev0 : ∀ {xs : List V} {ds : List D}, RepL K B xs ds → RepL K B xs.reverse ds.reverse
  | _, _, .nil => .nil
  | _, _, .cons h t => by rw [List.reverse_cons, List.reverse_cons]; exact (RepL.rev0 t).append (.cons h .nil)
theorem RepL.rev {α : Type} [Enc α] {l : List α} (r : RepL K B xs (l.map enc)) : RepL K B xs.reverse (l.reverse.map enc) := by
  rw [List.map_reverse]
  exact RepL.rev0 r
theorem RepL.erase : ∀ {xs : List V} {ds : List D} (k : Nat), RepL K B xs ds → RepL K B (xs.eraseIdx k) (ds.eraseIdx k)
  | _, _, _, .nil => .nil
  | _, _, 0, .cons h t => t
  | _, _, k + 1, .cons h t => .cons h (RepL.erase k t)
theorem map_erase {α : Type} [Enc α] : ∀ (l : List α) (k : Nat), (l.eraseIdx k).map (enc : α → D) = (l.map enc).eraseIdx k
  | [], _ => rfl
  | _ :: _, 0 => rfl
  | x :: xs, k + 1 => congrArg (enc x :: ·) (map_erase xs k)
/-- l.pop(i), i from 0 on -/
def popR {α : Type} (l : List α) (i : Int) : Res (α × List α) := if 0 ≤ i ∧ i < (l.length : Int) ∧ l.length ≤ 1000000 then match l[i.toNat]? with | some x => .ok (x, l.eraseIdx i.toNat) | none => .stuck else .stuck
theorem Post.pop {α β : Type} {l : List α} {i : Int} {k : α × List α → Res β} {P : β → Prop} {R : Err → Prop} (h : Post ((popR l i).bind k) P R) : ∃ x, (0 ≤ i ∧ i < (l.length : Int) ∧ l.length ≤ 1000000) ∧ l[i.toNat]? = some x ∧ Post (k (x, l.eraseIdx i.toNat)) P R := by
  unfold popR at h
  by_cases c : 0 ≤ i ∧ i < (l.length : Int) ∧ l.length ≤ 1000000
  · rw [if_pos c] at h
    cases e : l[i.toNat]? with
    | none => rw [e] at h; exact h.elim
    | some x => rw [e] at h; exact ⟨x, c, rfl, h⟩
  · rw [if_neg c] at h; exact h.elim
theorem h_popL {α : Type} [Enc α] {l : List α} {i : Int} {b : α} (w : Ex B H) (m : Mu K B H p (l.map enc)) (hi : 0 ≤ i ∧ i < (l.length : Int) ∧ l.length ≤ 1000000) (hb : l[i.toNat]? = some b)
    (h : ∀ y H', Stp [p] B H B H' → Mu K B H' p ((l.eraseIdx i.toNat).map enc) → Rep K B y (enc b) → Q y H') : rPopAt (.ref p) [.int i] H Q := by
  obtain ⟨hb0, xs, hp, hr⟩ := id m
  have hl : xs.length = l.length := by rw [hr.length, List.length_map]
  obtain ⟨u, hu, ru⟩ := hr.get (i := i.toNat) (d := enc b) (by rw [List.getElem?_map, hb]; rfl)
  have rl : RepL K B (xs.eraseIdx i.toNat) ((l.eraseIdx i.toNat).map enc) := by
    rw [map_erase]
    exact RepL.erase _ hr
  refine ⟨p, xs, i, i.toNat, u, rfl, rfl, hp, by omega, by omega, ?_, hu, ?_⟩
  · unfold seqIndex?
    rw [hl]
    simp [show ¬ i < 0 from by omega, hi.1, hi.2.1]
  · obtain ⟨s, m'⟩ := Stp.mut w m rl
    exact h _ _ s m' ru
end
theorem pg_tupK {X : Cx} {pos : Pos} {es : List Expr} {k : Nat} {t : TGs} {n : Nat} {K : PySem.W.Frag} (hc : X.calm = true) (hK : X.K = K) (h : PGs X es t)
    (hn : (assignEach es X.env).length = n := by rfl) (hst : (assignEach es X.env).findIdx? (·.1) = none := by rfl) : PG X (.Tuple es k pos) (gTup K n t) := hK ▸ pg_tup hc h hn hst
/-! ### l * k, casts, constants -/
theorem list_mulW (l : Addr) (items : Array Value) (n : Nat) (dd : Option Addr) (sl : Array (Option Value)) (x : Int) (u : Tok) (hc0 : ¬(!Builtin.List.listFitsIndex x) = true) (hc1 : ¬items.size * x.toNat > (2 ^ 63 - 1) / 8) (hc2 : ¬Builtin.List.listTooLong (items.size * x.toNat) = true) :
    Meets (Builtin.«list.__mul__» ⟨[.ref l, .int x u], []⟩) (fun _ R s => s.heap.get? l = some { cls := .type "list", dict := dd, data := .seq items n, slots := sl } ∧ R (.ok (.ret (Value.ref s.heap.objs.size))) { s with heap := s.heap.push { cls := Value.type "list", data := Data.seq (List.foldl (fun x1 x2 => x1 ++ x2) #[] (List.replicate (if items.isEmpty = true then 0 else x.toNat) items)) }, toks := s.toks }) :=
  .of_wp fun prog w A R s h => by
    obtain ⟨hp, g, d, tk, os⟩ := s; obtain ⟨hl, h⟩ := h
    have hsz := PySem.AutoListH.joined_fits hc2
    wp_walk; refine wpAny_ite_false (decide_eq_false (Nat.not_lt.mpr hsz)) ?_; wp_walk; exact ⟨_, rfl, h⟩
theorem int_rmulW (a : Int) (t : Tok) (l : Addr) (items : Array Value) (n : Nat) (dd : Option Addr) (sl : Array (Option Value)) :
    Meets (Builtin.«int.__rmul__» ⟨[.int a t, .ref l], []⟩) (fun _ R s => s.heap.get? l = some { cls := .type "list", dict := dd, data := .seq items n, slots := sl } ∧ R (.ok (.ret Value.notImplemented)) s) :=
  .of_wp fun prog w A R s h => by obtain ⟨hp, g, d, tk, os⟩ := s; obtain ⟨hl, h⟩ := h; wp_walk; exact ⟨_, rfl, h⟩
def rRepQ (K : PySem.W.Frag) : R2 := fun x y H Q => ∃ l k xs, x = .ref l ∧ y = .int k ∧ SqL K H l xs ∧ -(2 ^ 63) ≤ k ∧ k < 2 ^ 63 ∧ xs.length * k.toNat ≤ sizeLine ∧ NwL (List.replicate k.toNat xs).flatten H Q
theorem op_repQ {X : Cx} : OpR X (binaryOp .Mult) (rRepQ X.K) := by
  intro pins s σ H x y v u Q I rx ry h
  obtain ⟨l, k, xs, rfl, rfl, hH, h1, h2, hz, q⟩ := h
  cases rx
  obtain ⟨t, rfl⟩ := ry
  obtain ⟨its, r, p1, z⟩ := I.list hH
  have hl := r.length
  obtain ⟨⟨cls, dd, data, sl⟩, e, hc, n, hd⟩ := p1.isList
  simp only at hc hd
  subst hc hd
  have hlen : its.toArray.size * k.toNat ≤ sizeLine := by rw [List.size_toArray, ← hl]; exact hz
  have hcap : ¬ its.toArray.size * k.toNat > (2 ^ 63 - 1) / 8 := by
    have : (sizeLine : Nat) ≤ (2 ^ 63 - 1) / 8 := by decide
    omega
  have hfit : ¬ (!Builtin.List.listFitsIndex k) = true := by
    rw [fitsIndex_both h1 h2]
    exact Bool.false_ne_true
  have hlong : ¬ Builtin.List.listTooLong (its.toArray.size * k.toNat) = true := by
    rw [notLongL hlen]
    exact Bool.false_ne_true
  have hnew : List.foldl (fun x1 x2 => x1 ++ x2) #[] (List.replicate (if its.toArray.isEmpty = true then 0 else k.toNat) its.toArray) = (List.replicate k.toNat its).flatten.toArray := by
    have f0 : ∀ m : Nat, List.foldl (fun x1 x2 => x1 ++ x2) #[] (List.replicate m its.toArray) = (List.replicate m its).flatten.toArray := fun m => by
      have := foldl_rep its m []
      rw [List.nil_append] at this
      exact this
    rw [f0]
    cases its with
    | nil => simp
    | cons a r' => rw [if_neg (by simp)]
  refine wpAny_binaryOp_repeat_ref (T := "list") (U := "int") (by decide) ⟨_, e, rfl⟩ (fun s' => typeIs_int s' k t) noFill_list_mul F.fills_int_mul F.slot_int_rmul repeat_list F.slot_int_index.lookup
    (call_meets F.slot_int_rmul (typeIs_int s k t) F.entry_int_rmul (F.args_int_rmul_2 _ _) (int_rmulW k t l its.toArray n dd sl)
      ⟨e, rfl, ⟨_, e, rfl⟩, call_meets F.slot_list_mul ⟨_, e, rfl⟩ F.entry_list_mul (F.args_list_mul_2 _ _) (list_mulW l its.toArray n dd sl k t hfit hcap hlong) ⟨e, ?_⟩⟩)
  rw [hnew]
  exact ⟨.ref _, _, I.lnew (t' := s.toks) (r.rep k.toNat) (by rw [PyProof.Rows.lm_len_rep_flat, Nat.mul_comm]; exact hz), rfl, q _ I.fresh⟩
section
variable {K : PySem.W.Frag} {B B' H H' : Hp} {σ : L2.St} {Q : VK} {x y v : V} {d e : D} {p q : Addr} {xs ys : List V} {te : TE}
theorem h_repQ {k : Int} {n : Nat} (s : SqL K H p xs) (hn : xs.length = n) (hz : n * k.toNat ≤ 1000000 ∧ -(2 ^ 62) ≤ k ∧ k < 2 ^ 62) (h : NwL (List.replicate k.toNat xs).flatten H Q) : rRepQ K (.ref p) (.int k) H Q :=
  ⟨p, k, xs, rfl, rfl, s, by omega, by omega, by rw [hn]; exact Nat.le_trans hz.1 (by decide), h⟩
theorem RepL.rep0 {ds : List D} (r : RepL K B xs ds) : ∀ k : Nat, RepL K B (List.replicate k xs).flatten (List.replicate k ds).flatten
  | 0 => .nil
  | k + 1 => by rw [List.replicate_succ, List.replicate_succ, List.flatten_cons, List.flatten_cons]; exact r.append (RepL.rep0 r k)
/-- l * k -/
def timesL {α : Type} (l : List α) (k : Int) : List α := (List.replicate k.toNat l).flatten
theorem RepL.times {α : Type} [Enc α] {l : List α} (r : RepL K B xs (l.map enc)) (k : Int) : RepL K B (List.replicate k.toNat xs).flatten ((timesL l k).map enc) := by
  have e : (timesL l k).map (enc : α → D) = (List.replicate k.toNat (l.map enc)).flatten := by
    unfold timesL
    rw [List.map_flatten, List.map_replicate]
  rw [e]
  exact r.rep0 _
/-- isinstance of a list that is only read, or of our own -/
theorem isiL {t : String} {l : List D} (s : SqL K H p xs) (q : Q (.bl (isA t (.lst l))) H) (ht : t ∈ ["bool", "int", "str", "list", "tuple", "dict"] := by simp) : rIsi K [.ref p, .ty t] H Q := by
  have ty : TyX K H (.ref p) (.type "list") := by
    rcases s with (h | ⟨o, h⟩) | ⟨o, its, n, h, hc, _⟩
    · exact .base (.lst h)
    · exact .base (.frz h)
    · exact .kList h hc
  exact ⟨.ref p, .ty t, _, .type t, isA t (.lst l), rfl, .ty t, ty, kit_ty (kit_tab _ (tyD_in (.lst l)) _ ht), q⟩
end
/-! ### things read as what they are -/
class Dec (α : Type) [Enc α] where
  dec : D → Option α
  ok : ∀ d x, dec d = some x → d = enc x
instance : Dec D := ⟨fun d => some d, fun d x e => Option.some.inj e⟩
instance : Dec Int := ⟨fun d => match d with | .int i => some i | _ => none, fun d x e => by cases d <;> simp at e; rw [e]; rfl⟩
instance : Dec Bool := ⟨fun d => match d with | .bl i => some i | _ => none, fun d x e => by cases d <;> simp at e; rw [e]; rfl⟩
instance : Dec Str := ⟨fun d => match d with | .str i => some i | _ => none, fun d x e => by cases d <;> simp at e; rw [e]; rfl⟩
instance {α : Type} [Enc α] [Dec α] : Dec (Option α) := ⟨fun d => match d with | .non => some none | d => (Dec.dec d).map some, fun d x e => by
  cases d with
  | non => cases Option.some.inj e; rfl
  | _ => all_goals
    obtain ⟨y, e1, e2⟩ := Option.map_eq_some_iff.mp (show Option.map some _ = some x from e)
    rw [← e2]
    show _ = (enc y : D)
    exact Dec.ok _ _ e1⟩
instance {α β : Type} [Enc α] [Enc β] [Dec α] [Dec β] : Dec (Tp2 α β) := ⟨fun d => match d with | .tup [a, b] => (Dec.dec a).bind fun x => (Dec.dec b).bind fun y => some ⟨x, y⟩ | _ => none, fun d x e => by
  split at e
  · obtain ⟨u, e1, e⟩ := Option.bind_eq_some_iff.mp e
    obtain ⟨w, e2, e⟩ := Option.bind_eq_some_iff.mp e
    cases Option.some.inj e
    rw [Dec.ok _ _ e1, Dec.ok _ _ e2]
    rfl
  · cases e⟩
instance {α β γ : Type} [Enc α] [Enc β] [Enc γ] [Dec α] [Dec β] [Dec γ] : Dec (Tp3 α β γ) := ⟨fun d => match d with | .tup [a, b, c] => (Dec.dec a).bind fun x => (Dec.dec b).bind fun y => (Dec.dec c).bind fun z => some ⟨x, y, z⟩ | _ => none, fun d x e => by
  split at e
  · obtain ⟨u, e1, e⟩ := Option.bind_eq_some_iff.mp e
    obtain ⟨w, e2, e⟩ := Option.bind_eq_some_iff.mp e
    obtain ⟨w2, e3, e⟩ := Option.bind_eq_some_iff.mp e
    cases Option.some.inj e
    rw [Dec.ok _ _ e1, Dec.ok _ _ e2, Dec.ok _ _ e3]
    rfl
  · cases e⟩
def decs {α : Type} [Enc α] [Dec α] : List D → Option (List α)
  | [] => some []
  | d :: ds => (Dec.dec d).bind fun x => (decs ds).bind fun xs => some (x :: xs)
theorem decs_ok {α : Type} [Enc α] [Dec α] : ∀ (ds : List D) (l : List α), decs ds = some l → ds = l.map enc
  | [], l, e => by cases Option.some.inj e; rfl
  | d :: ds, l, e => by
    obtain ⟨u, e1, e⟩ := Option.bind_eq_some_iff.mp e
    obtain ⟨w, e2, e⟩ := Option.bind_eq_some_iff.mp e
    cases Option.some.inj e
    rw [Dec.ok _ _ e1, decs_ok _ _ e2]
    rfl
instance {α : Type} [Enc α] [Dec α] : Dec (List α) := ⟨fun d => match d with | .lst ds => decs ds | _ => none, fun d x e => by
  split at e
  · rw [decs_ok _ _ e]; rfl
  · cases e⟩
def asD (α : Type) [Enc α] [Dec α] (d : D) : Res α := match Dec.dec d with | some x => .ok x | none => .stuck
theorem Post.asD {α β : Type} [Enc α] [Dec α] {d : D} {k : α → Res β} {P : β → Prop} {R : Err → Prop} (h : Post ((Y.asD α d).bind k) P R) : ∃ x, d = enc x ∧ Post (k x) P R := by
  unfold Y.asD at h
  cases e : Dec.dec (α := α) d with
  | none => rw [e] at h; exact h.elim
  | some x => rw [e] at h; exact ⟨x, Dec.ok _ _ e, h⟩
/-- what is there -/
def someR {α : Type} (o : Option α) : Res α := match o with | some x => .ok x | none => .stuck
theorem Post.some {α β : Type} {o : Option α} {k : α → Res β} {P : β → Prop} {R : Err → Prop} (h : Post ((someR o).bind k) P R) : ∃ x, o = Option.some x ∧ Post (k x) P R := by
  cases o with
  | none => exact h.elim
  | some x => exact ⟨x, rfl, h⟩
/-- a constant of the module: data that is written out -/
structure CT {α : Type} [Enc α] (K : PySem.W.Frag) (mg : Str → Option Value) (nm : Str) (C : Addr) (x : α) : Prop where
  g : mg nm = Option.some (.ref C)
  rep : ∀ B, Rep K B (.ref C) (enc x)
/-! ### defs that hand a new list back; l.pop() -/
def RetF (K : PySem.W.Frag) (W : List Addr) (B H : Hp) (ds : List D) (Q : VK) : Prop := ∀ p B' H', Stp W B H B' H' → H p = none → Mu K B' H' p ds → Q (.ref p) H'
def RetMF (K : PySem.W.Frag) (q : Addr) (B H : Hp) (ds es : List D) (Q : VK) : Prop := ∀ p B' H', Stp [q] B H B' H' → H p = none → Mu K B' H' p ds → Mu K B' H' q es → Q (.ref p) H'
def popE {α : Type} (l : List α) : Res (α × List α) := match l[l.length - 1]? with | some x => .ok (x, l.dropLast) | none => .stuck
theorem Post.popE {α β : Type} {l : List α} {k : α × List α → Res β} {P : β → Prop} {R : Err → Prop} (h : Post ((Y.popE l).bind k) P R) : ∃ x, l[l.length - 1]? = Option.some x ∧ Post (k (x, l.dropLast)) P R := by
  unfold Y.popE at h
  cases e : l[l.length - 1]? with
  | none => rw [e] at h; exact h.elim
  | some x => rw [e] at h; exact ⟨x, rfl, h⟩
section
variable {K : PySem.W.Frag} {B H : Hp} {Q : VK} {p : Addr} {xs : List V}
theorem RepL.dropLast : ∀ {xs : List V} {ds : List D}, RepL K B xs ds → RepL K B xs.dropLast ds.dropLast
  | _, _, .nil => .nil
  | _, _, .cons _ .nil => .nil
  | _, _, .cons h (.cons h2 t) => .cons h (RepL.dropLast (.cons h2 t))
theorem h_popE {α : Type} [Enc α] {l : List α} {b : α} (w : Ex B H) (m : Mu K B H p (l.map enc)) (hb : l[l.length - 1]? = some b)
    (h : ∀ y H', Stp [p] B H B H' → Mu K B H' p (l.dropLast.map enc) → Rep K B y (enc b) → Q y H') : rPop (.ref p) [] H Q := by
  obtain ⟨hb0, xs, hp, hr⟩ := id m
  have hl : xs.length = l.length := by rw [hr.length, List.length_map]
  obtain ⟨u, hu, ru⟩ := hr.get (i := l.length - 1) (d := enc b) (by rw [List.getElem?_map, hb]; rfl)
  have rl : RepL K B xs.dropLast (l.dropLast.map enc) := by
    rw [List.map_dropLast]
    exact RepL.dropLast hr
  obtain ⟨s, m'⟩ := Stp.mut w m rl
  exact ⟨p, xs, u, rfl, rfl, hp, by rw [hl]; exact hu, h _ _ s m' ru⟩
end
end Y

set_option Elab.async false
set_option linter.all false
set_option maxRecDepth 100000
set_option maxHeartbeats 2000000
namespace Y
open PySem PySem.Spec PyProof.Rows
open L2
open Enc (enc)
/-! # more readings: max of two, insert, enumerate -/
theorem h_fr {t : TS} {D' : Ends} {σ σ' : L2.St} {H : Hp} (e : σ = σ') (h : t D' σ' H) : t D' σ H := by rw [e]; exact h
def maxI (i j : Int) : Int := if j > i then j else i
def rMaxY : List V → Hp → VK → Prop := fun xs H Q => ∃ i j, xs = [.int i, .int j] ∧ Q (.int (if j > i then j else i)) H
theorem cr_max {X : Cx} (hc : X.calm = true) : CallR X (.builtin "max") rMaxY := call_max2 hc
theorem h_max {i j : Int} {H : Hp} {Q : VK} (h : Q (.int (maxI i j)) H) : rMaxY [.int i, .int j] H Q := ⟨i, j, rfl, h⟩
def rInsY : V → List V → Hp → VK → Prop := fun x vs H Q => ∃ (l : Addr) (xs : List V) (i : Int) (y : V), x = .ref l ∧ vs = [.int i, y] ∧ H l = some (.lst xs) ∧ xs.length < sizeLine ∧ 0 ≤ i ∧ i < 2 ^ 63 ∧ Q .non (upd H l (.lst (xs.take i.toNat ++ [y] ++ xs.drop i.toNat)))
theorem mt_insY {X : Cx} : MtR X "list.insert" rInsY := mt_insert
def insL {α : Type} (l : List α) (i : Int) (b : α) : List α := l.take i.toNat ++ [b] ++ l.drop i.toNat
section
variable {K : PySem.W.Frag} {B B' H H' : Hp} {Q : VK} {p : Addr} {y : V} {i : Int}
theorem h_insert {α : Type} [Enc α] {l : List α} {b : α} (w : Ex B H) (m : Mu K B H p (l.map enc)) (ry : Rep K B y (enc b)) (hz : l.length < 1000000 ∧ 0 ≤ i ∧ i < 2 ^ 63) (h : ∀ H', Stp [p] B H B H' → Mu K B H' p ((insL l i b).map enc) → Q .non H') : rInsY (.ref p) [.int i, y] H Q := by
  obtain ⟨hb, xs, hp, hr⟩ := id m
  refine ⟨p, xs, i, y, rfl, rfl, hp, by rw [hr.length, List.length_map]; exact Nat.lt_of_lt_of_le hz.1 (by decide), hz.2.1, hz.2.2, ?_⟩
  have rl : RepL K B (xs.take i.toNat ++ [y] ++ xs.drop i.toNat) ((insL l i b).map enc) := by
    unfold insL
    rw [List.map_append, List.map_append, List.map_take, List.map_drop]
    exact ((hr.take _).append (.cons ry .nil)).append (hr.drop _)
  obtain ⟨s, m'⟩ := Stp.mut w m rl
  exact h _ s m'
end
/-- the things with their places -/
def enumL {α : Type} (l : List α) : List (Tp2 Int α) := l.mapIdx fun i x => ⟨(i : Int), x⟩
def En (K : PySem.W.Frag) (vs : List V) (g : TG) (tb : TS) (D' : Ends) (σ : L2.St) (H : Hp) : Prop := tFor (iEnum K (fun _ H Q => Q vs H)) g tb D' σ H
section
variable {K : PySem.W.Frag} {σ : L2.St} {B H : Hp} {p : Addr} {xs : List V} {tb : TS} {D' : Ends} {g : TG} {α β S : Type} {P : β → Prop} {R : Err → Prop}
theorem h_enumE {ta : TA} (h : ta σ H fun vs H1 => En K vs g tb D' σ H1) : tFor (iEnum K ta) g tb D' σ H := h
theorem h_forEn [Enc α] {l : List α} {s0 : S} {f : Tp2 Int α → S → Res (Fl S β)} {k : S → Res β} (hP : Post ((forR (enumL l) s0 f).bind (afterR k)) P R) (hs : SqL K H p xs) (hr : RepL K B xs (l.map enc))
    (J : S → L2.St → Hp → Prop) (h0 : J s0 σ H) (hl : ∀ s σ' H', J s σ' H' → SqL K H' p xs)
    (hb : ∀ (N : L2.St → Hp → Prop) (T : Fl S β → Prop) (x : Tp2 Int α) u s σ' H', J s σ' H' → Rep K B u (enc x.b) → (∀ s' σ2 H2, J s' σ2 H2 → T (.nx s') → N σ2 H2) → (∀ r, T (.rt r) → P r) → (∀ s' σ2 H2, J s' σ2 H2 → T (.bk s') → D'.nx σ2 H2) → Post (f x s) T R →
      NewT [.int x.a, u] H' fun v H1 => g v σ' H1 fun σ2 H2 => tb { D' with nx := N, ct := N, bk := D'.nx } σ2 H2)
    (hd : ∀ s σ' H', J s σ' H' → Post (k s) P R → D'.nx σ' H') : En K [.ref p] g tb D' σ H := by
  refine ⟨p, xs, rfl, hs, for_it (n := xs.length) walk_enum (fun i σ' H' => ∃ s, J s σ' H' ∧ Post (forR ((enumL l).drop i) s f) (fun a => Post (afterR k a) P R) R) ⟨s0, h0, hP.bind⟩ (fun i σ' H' _ ⟨s, j, _⟩ => hl s σ' H' j) ?_ ?_⟩
  · rintro i v σ' H' H2 hi ⟨s, j, q⟩ ⟨T, y1, y2, rfl, hT, rfl, h1, h2⟩
    cases Option.some.inj h1
    have hll : xs.length = l.length := by rw [hr.length, List.length_map]
    have hil : i < l.length := by omega
    have hx : (enumL l)[i]? = some ⟨(i : Int), l[i]⟩ := by
      unfold enumL
      rw [List.getElem?_mapIdx, List.getElem?_eq_getElem hil]
      rfl
    obtain ⟨u, hu, ru⟩ := hr.get (i := i) (d := enc l[i]) (by rw [List.getElem?_map, List.getElem?_eq_getElem hil]; rfl)
    have h2 : xs[i]? = some y2 := h2
    rw [h2] at hu; cases hu
    exact (hb _ _ ⟨(i : Int), l[i]⟩ y2 s σ' H' j ru (fun s' σ2 H2 j2 t2 => ⟨s', j2, t2⟩) (fun r t2 => (t2 : Post (.ok r) P R).ok) (fun s' σ2 H2 j2 t2 => hd s' σ2 H2 j2 t2) (q.turn hx)).2 T hT
  · rintro σ' H' ⟨s, j, q⟩
    exact hd s σ' H' j (q.forN (by unfold enumL; rw [List.length_mapIdx, hr.length, List.length_map]; exact Nat.le_refl _))
end
end Y

set_option Elab.async false
set_option linter.all false
set_option maxRecDepth 100000
set_option maxHeartbeats 4000000
namespace Y
open PySem PySem.Spec PyProof.Rows
open L2
/-! # a try whose clauses may each have a name -/
/-- a clause: what it names, the slot of its name, its suite's reading -/
structure Cl where
  c : Value
  nm : Option Nat
  ts : Addr → Value → Option Addr → TS
def Cl.ends (k : Cl) (D : Ends) : Ends := match k.nm with
  | none => D
  | some i => ⟨fun σ H => D.nx (σ.set i none) H, D.rt, fun σ H => D.bk (σ.set i none) H, fun σ H => D.ct (σ.set i none) H⟩
def Cl.slots (k : Cl) (σ : L2.St) (a : Addr) : L2.St := match k.nm with | none => σ | some i => σ.set i (some (.ref a))
def wMix (K : PySem.W.Frag) (Wout : WX) (D : Ends) : List Cl → WX
  | [] => Wout
  | k :: r => fun cls d σ H => ∃ b, PySem.W.exmOne K cls k.c = some b ∧ (b = true → ∀ a, H a = none → k.ts a cls d (k.ends D) (k.slots σ a) H) ∧ (b = false → wMix K Wout D r cls d σ H)
abbrev SuOk (X : Cx) (b₀ : Stmt) (su : List Stmt) (ts : Addr → Value → Option Addr → TS) : Prop :=
  ∀ (a : Addr) (oe : Obj) (cls : Value) (d : Option Addr) (pn : List (Addr × Obj)), Zc cls d oe → (∃ vs, oe.data = .fields vs) → PSs (X.suite a ((a, oe) :: pn)) (b₀ :: su) (ts a cls d)
inductive Mix (X : Cx) : List ExceptHandler → List Cl → Prop
  | nil : Mix X [] []
  | plain {x : Str} {c : Value} {ts : Addr → Value → Option Addr → TS} {b₀ : Stmt} {su : List Stmt} {p q : Pos} {hs : List ExceptHandler} {ks : List Cl}
      (hc : Names X x c) (hsu : SuOk X b₀ su ts) (r : Mix X hs ks) : Mix X (.ExceptHandler (some (.Name x p)) none (b₀ :: su) q :: hs) (⟨c, none, ts⟩ :: ks)
  | named {x n : Str} {i : Nat} {c : Value} {ts : Addr → Value → Option Addr → TS} {b₀ : Stmt} {su : List Stmt} {p q : Pos} {hs : List ExceptHandler} {ks : List Cl}
      (hN : X.N.Nodup) (hi : X.N[i]? = some n) (hl : X.env.kindOf n = some .local) (hc : Names X x c) (hsu : SuOk X b₀ su ts) (r : Mix X hs ks) : Mix X (.ExceptHandler (some (.Name x p)) (some n) (b₀ :: su) q :: hs) (⟨c, some i, ts⟩ :: ks)
/-- the exception is in flight here: what was known ahead of it -/
structure Fly (X : Cx) (a : Addr) (B : Heap) (sI s1 : Shared) (pins : List (Addr × Obj)) (σ : L2.St) (H : Hp) (cls : Value) (d : Option Addr) (h : Heap) : Prop where
  J : Inv X pins σ H sI
  nb : ∀ b o, sI.heap.get? b = some o → b ∉ frs X.stack → B.get? b = some o
  up : sI.heap.UpToSlots h
  na : H a = none
  os : s1.os = sI.os
  ag : AllBare s1.gens
  fl : HandSPX.FlyingZ B (X.env :: X.outer) a (Zc cls d) h
section
variable {X : Cx} {a : Addr} {B : Heap} {sI s1 : Shared} {pins : List (Addr × Obj)} {σ : L2.St} {H : Hp} {cls : Value} {d : Option Addr} {h : Heap}
theorem Fly.inv (F : Fly X a B sI s1 pins σ H cls d h) : Inv X pins σ H { s1 with heap := h } := F.J.landed F.nb F.fl.1 F.up F.os F.ag
theorem Fly.apart (F : Fly X a B sI s1 pins σ H cls d h) (hf : X.env.frame = some X.env.locals) (hs : X.stack = X.env :: X.outer) : a ≠ X.env.locals ∧ a ∉ X.fs := by
  obtain ⟨oe, vs, he, hz, hd⟩ := F.fl.there
  have key : ∀ e ∈ X.env :: X.outer, e.frame ≠ some a := fun e me q => by
    obtain ⟨_, o, ho, hn⟩ := F.fl.2.2.1.mem (List.mem_filterMap.mpr ⟨e, me, q⟩)
    rw [he] at ho
    cases ho
    exact hn _ hd
  exact ⟨fun z => key X.env List.mem_cons_self (by rw [hf, z]), fun m => by
    obtain ⟨e, me, q⟩ := List.mem_filterMap.mp m
    exact key e (List.mem_cons_of_mem _ me) q⟩
end
section
variable {X : Cx} {body : List Stmt} {h₀ : ExceptHandler} {hds : List ExceptHandler} {ks : List Cl} {pos : Pos} {tb : WX → TS} {Wout : WX}
/-- none of the clauses is right: it goes on -/
theorem fly_on {a : Addr} {B : Heap} {sI s1 : Shared} {pins : List (Addr × Obj)} {σ : L2.St} {H : Hp} {cls : Value} {d : Option Addr} {h : Heap} {Q : Flow → Shared → Prop} (hs : X.stack = X.env :: X.outer) (hf : X.env.frame = some X.env.locals) (tk : Takes X Wout)
    (F : Fly X a B sI s1 pins σ H cls d h) (w : Wout cls d σ H) : wpAny (model X.prog X.w) X.A (handleBy (.ref a) X.env []) Q X.xe { s1 with heap := h } := by
  apply wpAny_handleBy_nil
  have fl := F.fl
  obtain ⟨_, _, _, oe, vs, T, oT, tsl, he, hz, hd, h1, hr⟩ := fl
  have up1 : wpAny (model X.prog X.w) X.A (setFlight (.ref a) X.env.frame) (fun _ z => wpAny (model X.prog X.w) X.A (throw (.ref a) : Sem Flow) Q X.xe z) X.xe { s1 with heap := h } := by
    rw [hf]
    apply HandSPX.setFlight_upZ F.fl
    intro k hk uk
    apply wpAny_throw
    exact tk _ _ ⟨a, B, sI, pins, σ, H, cls, d, rfl, F.J, F.nb, F.up.trans uk, .inr (.inr (by rw [hs]; exact hk)), F.na, F.os, F.ag, w⟩
  unfold PySem.passOn
  apply wpAny_bind
  apply wpAny_field he hd h1
  rw [if_neg (show ¬ ((Value.ref T == Value.none) = true) from by simp)]
  first
    | exact wpAny_bind (wpAny_pure (wpAny_bind up1))
    | exact wpAny_bind up1
theorem fly_mix {a : Addr} {B : Heap} {sI s1 : Shared} {pins : List (Addr × Obj)} {σ : L2.St} {H : Hp} {cls : Value} {d : Option Addr} {h : Heap} {D : Ends} (hs : X.stack = X.env :: X.outer) (hf : X.env.frame = some X.env.locals) (tk : Takes X Wout) (ok : X.Ok)
    (F : Fly X a B sI s1 pins σ H cls d h) : ∀ {hds : List ExceptHandler} {ks : List Cl}, Mix X hds ks → wMix X.K Wout D ks cls d σ H → wpAny (model X.prog X.w) X.A (handleBy (.ref a) X.env hds) (SP X pins D) X.xe { s1 with heap := h } := by
  intro hds ks M
  obtain ⟨oe, vs, he, hz, hd⟩ := F.fl.there
  obtain ⟨nL, nF⟩ := F.apart hf hs
  have S := F.inv.suite he hd F.na nL nF
  have LT : PySem.W.Looks (model X.prog X.w) h (typeOf (.ref a)) cls := fun A Q E s k q => wpAny_typeOf_ref (k _ _ he) (by rw [hz.1]; exact q)
  have named : ∀ {x : Str} {c : Value} {np : Pos}, Names X x c → ∀ {Q E : Value → Shared → Prop}, Q c { s1 with heap := h } → wpAny (model X.prog X.w) (X.A.mark (some (.ref a))) (eval (.Name x np) X.env) Q E { s1 with heap := h } := by
    intro x c np hc Q E q
    rcases hc with ⟨g, db, g2 | ⟨g2, g3, g4⟩⟩
    · exact ld_glob (X := X.suite a ((a, oe) :: (X.pn ++ pins))) S g g2 q db
    · exact ld_blt (X := X.suite a ((a, oe) :: (X.pn ++ pins))) S g g2 g3 q g4 db
  induction M with
  | nil => exact fun w => fly_on hs hf tk F w
  | @plain x c ts b₀ su p q hs' ks' hc hsu r ih =>
    rintro ⟨b, hb, yes, no⟩
    apply wpAny_handleBy_cons (codeAny_handlers_test ?_) (by intro z; cases z)
    apply named hc
    apply (PySem.W.exm_one (M := model X.prog X.w) F.inv.kIn LT hb).here
    cases b
    · exact ih (no rfl)
    · apply codeAny_handlers_suite
      apply HandSPX.lands_againZ F.fl
      intro k fk uk
      have F' : Fly X a B sI s1 pins σ H cls d k := ⟨F.J, F.nb, F.up.trans uk, F.na, F.os, F.ag, fk⟩
      obtain ⟨oe', vs', he', hz', hd'⟩ := fk.there
      have S' := F'.inv.suite he' hd' F.na nL nF
      apply wpAny_mono ((hsu a oe' cls d (X.pn ++ pins) hz' ⟨_, hd'⟩).run [] _ _ H _ S' (yes rfl a F.na)) ?_ (fun _ _ z => z.elim)
      intro f t ht
      cases f <;> obtain ⟨σ6, ht⟩ := ht
      case ret => obtain ⟨σ7, H7, S7, r7, q7⟩ := ht; exact ⟨_, _, _, S7.unsuite ok, r7, q7⟩
      all_goals (obtain ⟨H6, S6, q6⟩ := ht; exact ⟨_, _, S6.unsuite ok, q6⟩)
  | @named x n i c ts b₀ su p q hs' ks' hN hi hl hc hsu r ih =>
    rintro ⟨b, hb, yes, no⟩
    apply wpAny_handleBy_cons (codeAny_handlers_test ?_) (by intro z; cases z)
    apply named hc
    apply (PySem.W.exm_one (M := model X.prog X.w) F.inv.kIn LT hb).here
    cases b
    · exact ih (no rfl)
    · apply codeAny_handlers_suite_as
      apply HandSPX.lands_againZ F.fl
      intro k fk uk
      have F' : Fly X a B sI s1 pins σ H cls d k := ⟨F.J, F.nb, F.up.trans uk, F.na, F.os, F.ag, fk⟩
      obtain ⟨oe', vs', he', hz', hd'⟩ := fk.there
      have S' := F'.inv.suite he' hd' F.na nL nF
      have hx : Loc X.env.scope n := .inl hl
      refine store_ok (X := X.suite a ((a, oe') :: (X.pn ++ pins))) (v := .ref a) S' hN hi hx rfl (fun t2 T2 => ?_) (.inr hl)
      apply wpAny_mono ((hsu a oe' cls d (X.pn ++ pins) hz' ⟨_, hd'⟩).run [] t2 _ H _ T2 (yes rfl a F.na)) ?_ (fun _ _ z => z.elim)
      intro f t ht
      have leave : ∀ {σ6 : L2.St} {H6 : Hp} {Q : Shared → Prop}, Inv (X.suite a ((a, oe') :: (X.pn ++ pins))) [] σ6 H6 t → (∀ t7, Inv X pins (σ6.set i none) H6 t7 → Q t7) →
          wpAny (model X.prog X.w) X.A (do bindName X.env n .none; unbindBehindTheSuite X.env n q) (fun _ t7 => Q t7) X.xe t := fun S6 hq => gone_ok (S6.unsuite ok) hN hi hl hq
      cases f <;> obtain ⟨σ6, ht⟩ := ht
      case ret => obtain ⟨σ7, H7, S7, r7, q7⟩ := ht; exact leave S7 fun t7 J7 => ⟨_, _, _, J7, r7, q7⟩
      all_goals (obtain ⟨H6, S6, q6⟩ := ht; exact leave S6 fun t7 J7 => ⟨_, _, J7, q6⟩)
def tTryM (K : PySem.W.Frag) (ks : List Cl) (Wout : WX) (tb : WX → TS) : TS := fun D σ H => tb (wMix K Wout D ks) D σ H
theorem ps_tryM {K : PySem.W.Frag} (hs : X.stack = X.env :: X.outer) (hf : X.env.frame = some X.env.locals) (tk : Takes X Wout)
    (hb : ∀ (W : WX) (pn : List (Addr × Obj)) (xe : Value → Shared → Prop), Takes (X.tr pn xe) W → PassesOwn (model X.prog X.w) X.A X.env xe → PSs (X.tr pn xe) body (tb W))
    (M : Mix X (h₀ :: hds) ks) (hK : X.K = K := by rfl) : PS X (.Try body (h₀ :: hds) [] [] pos) (tTryM K ks Wout tb) := by
  subst hK
  refine ⟨fun pins s σ H D I h => ?_⟩
  have ok := I.ok
  have hfr : X.A.frames = some (X.env :: X.outer) := by rw [ok.frames, hs]
  apply wpAny_Try_except
  refine wpAny_mono ((hb (wMix X.K Wout D ks) (X.pn ++ pins) _ ?_ PassesOwn.looking).run [] s σ H D (I.toTry _) h) ?_ (fun e t he => he)
  · intro u t xx
    obtain ⟨a, B, sI, pins', σ', H', cls, d, rfl, J', nb, up, sky, na, os, ag, w⟩ := xx
    rw [show (X.tr (X.pn ++ pins) _).stack = X.env :: X.outer from hs] at sky
    refine Sky.land Zc.steady hfr hf sky fun k fk uk => ?_
    exact fly_mix hs hf tk ok (D := D) ⟨J'.ofTry ok, nb, up.trans uk, na, os, ag, fk⟩ M w
  · intro f t ht
    cases f
    case ret => obtain ⟨v, σ', H', J', r, q⟩ := ht; exact ⟨v, σ', H', J'.ofTry ok, r, q⟩
    case next => obtain ⟨σ', H', J', q⟩ := ht; exact wpAny_execs_nil ⟨σ', H', J'.ofTry ok, q⟩
    all_goals (obtain ⟨σ', H', J', q⟩ := ht; exact ⟨σ', H', J'.ofTry ok, q⟩)
end

/-! ## isinstance of the exception, several classes -/
def rIsET (K : PySem.W.Frag) (D a : Addr) : List V → Hp → VK → Prop := fun xs H Q => ∃ (tp : Addr) (cs : List V) (us : List Value) (b : Bool), xs = [.ref a, .ref tp] ∧ H tp = some (.tup cs) ∧ Paired ClsV cs us ∧ PySem.W.kitAny K (.ref D) us = some b ∧ Q (.bl b) H
theorem call_isET {X : Cx} {a D : Addr} {oe : Obj} {pn : List (Addr × Obj)} (C : ExcC X.K D) (hz : Zc (.ref D) none oe) (hf : ∃ vs, oe.data = .fields vs) : CallR (X.suite a ((a, oe) :: pn)) (.builtin "isinstance") (rIsET X.K D a) := by
  rintro pins s σ H _ us Q I r ⟨tp, cs, ws, b, rfl, hT, k, e, q⟩
  obtain ⟨u1, u2, rfl, r1, r2⟩ := r.two
  cases (show u1 = Value.ref a from r1)
  cases (show u2 = Value.ref tp from r2)
  have hget := (I.pin (a, oe) (List.mem_append.mpr (.inl List.mem_cons_self))).1
  obtain ⟨vs, hv⟩ := hf
  obtain ⟨h1, h2⟩ := hz
  obtain ⟨c0, d0, dt0, sl0⟩ := oe
  dsimp only at h1 h2 hv
  subst h1 h2 hv
  have J : PySem.W.InstAt s.heap a ⟨.ref D, none, .fields vs, sl0⟩ D none := ⟨hget, rfl, rfl, trivial⟩
  obtain ⟨_, its, rv, o, g1, g2, n, g3⟩ := (show ObjOk X.prog X.w H s.heap tp (.tup cs) from I.hok tp _ hT)
  have e3 := ClsV.all k rv
  subst e3
  obtain ⟨oc, od, dt, sl⟩ := o
  dsimp only at g2 g3
  subst g2 g3
  exact PySem.W.kia_tup (PySem.W.handS_kitx_exc C.hg C.hk C.hs C.hd C.ha C.hn C.ht C.hm) I.kIn J g1 e (fun z => nomatch z) fun tk => ⟨.bl b, H, I.kept (t' := tk) fun _ _ z => z, rfl, q⟩
def tIsET (K : PySem.W.Frag) (a : Addr) (cls : Value) (d : Option Addr) (targs : TA) : TE := fun σ H Q => ∃ Dc, cls = .ref Dc ∧ d = none ∧ ExcC K Dc ∧ tCB (rIsET K Dc a) targs σ H Q
section
variable {K : PySem.W.Frag} {σ : L2.St} {B H : Hp} {Q : VK} {D' : Ends} {Wout : WX} {k : Cl} {r : List Cl} {mg : Str → Option Value} {nm : Str}
theorem pe_isET {X : Cx} {e : Expr} {a : Addr} {cls : Value} {d : Option Addr} {targs : TA} (hK : X.K = K) (h : ∀ Dc, cls = .ref Dc → d = none → ExcC K Dc → PE X e (tCB (rIsET K Dc a) targs)) : PE X e (tIsET K a cls d targs) :=
  ⟨fun pins s σ H Q I q => by
    obtain ⟨Dc, e1, e2, ec, q⟩ := q
    exact (h Dc e1 e2 ec).run pins s σ H Q I q⟩
theorem h_isET {a C : Addr} {targs : TA} (T : ExcT K mg nm C) (h : targs σ H fun vs H1 => rIsET K C a vs H1 Q) : tIsET K a (.ref C) none targs σ H Q := ⟨C, rfl, rfl, T.ec, h⟩
theorem kitA_nil {t : Value} : PySem.W.kitAny K t [] = some false := rfl
theorem kitA_f {t c : Value} {r : List Value} {b : Bool} (h : PySem.W.kitOne K t c = some false) (hr : PySem.W.kitAny K t r = some b) : PySem.W.kitAny K t (c :: r) = some b := by
  unfold PySem.W.kitAny
  rw [h]
  exact hr
theorem kitA_t {t c : Value} {r : List Value} (h : PySem.W.kitOne K t c = some true) : PySem.W.kitAny K t (c :: r) = some true := by
  unfold PySem.W.kitAny
  rw [h]
/-- a tuple of classes that was just laid -/
theorem h_clsTup {xs : List V} (w : Ex B H) (hn : xs.length ≤ sizeLine) (h : ∀ p, Stp [] B H B (upd H p (.tup xs)) → Q (.ref p) (upd H p (.tup xs))) : NewT xs H Q := ⟨hn, fun p hp => h p (Stp.newM w hp)⟩
theorem h_isETR {a C tp : Addr} {xs : List V} {us : List Value} {b : Bool} (hp : Paired ClsV xs us) (e : PySem.W.kitAny K (.ref C) us = some b) (q : Q (.bl b) (upd H tp (.tup xs))) : rIsET K C a [.ref a, .ref tp] (upd H tp (.tup xs)) Q := ⟨tp, xs, us, b, rfl, upd_same, hp, e, q⟩
/-- the clause meets the error -/
theorem h_mixHitA {C S' : Addr} {i : Nat} {ts : Addr → Value → Option Addr → TS} (T : ExcT K mg nm S') (hs : PySem.W.subIn K (.ref C) (.ref S') = some true)
    (h : ∀ a, H a = none → ts a (.ref C) none ⟨fun σ H => D'.nx (σ.set i none) H, D'.rt, fun σ H => D'.bk (σ.set i none) H, fun σ H => D'.ct (σ.set i none) H⟩ (σ.set i (some (.ref a))) H) : wMix K Wout D' (⟨.ref S', some i, ts⟩ :: r) (.ref C) none σ H :=
  ⟨true, T.exm hs, fun _ a ha => h a ha, fun q => nomatch q⟩
theorem h_mixHitO {C S' : Addr} {ts : Addr → Value → Option Addr → TS} (T : ExcT K mg nm S') (hs : PySem.W.subIn K (.ref C) (.ref S') = some true)
    (h : ∀ a, H a = none → ts a (.ref C) none D' σ H) : wMix K Wout D' (⟨.ref S', none, ts⟩ :: r) (.ref C) none σ H :=
  ⟨true, T.exm hs, fun _ a ha => h a ha, fun q => nomatch q⟩
theorem h_mixSkip {C S' : Addr} (hc : k.c = .ref S') (T : ExcT K mg nm S') (hs : PySem.W.subIn K (.ref C) (.ref S') = some false) (h : wMix K Wout D' r (.ref C) none σ H) : wMix K Wout D' (k :: r) (.ref C) none σ H :=
  ⟨false, by rw [hc]; exact T.exm hs, (fun q => nomatch q), fun _ => h⟩
theorem h_tryM {ks : List Cl} {tb : WX → TS} (h : tb (wMix K Wout D' ks) D' σ H) : tTryM K ks Wout tb D' σ H := h
end

/-! ## a list of lists of our own -/
def Raw (B H : Hp) (p : Addr) (xs : List V) : Prop := B p = none ∧ H p = some (.lst xs)
section
variable {K : PySem.W.Frag} {B B' H H' : Hp} {W : List Addr} {p q : Addr} {xs : List V} {Q : VK} {d e : D} {v u : V}
theorem Raw.step (m : Raw B H p xs) (s : Stp W B H B' H') (h : p ∉ W) : Raw B' H' p xs := ⟨s.nw p _ m.1 m.2, s.fr p _ h m.2⟩
theorem Raw.ne (m : Raw B H p xs) (h : H q = none) : p ≠ q := ne_of_none m.2 h
theorem Raw.kp {r : Addr} (m : Raw B H q xs) (_ : Ex B B') (k : ∀ q, q ≠ r → B q = none → B' q = none) (n : q ≠ r) : Raw B' H q xs := ⟨k q n m.1, m.2⟩
theorem Raw.sq (m : Raw B H p xs) : SqL K H p xs := SqL.of m.2
theorem h_newRaw (w : Ex B H) (hn : xs.length ≤ sizeLine) (h : ∀ p H', H p = none → Stp [] B H B H' → Raw B H' p xs → Q (.ref p) H') : NewL xs H Q := ⟨hn, fun p hp => h p _ hp (Stp.newM w hp) ⟨w.none hp, upd_same⟩⟩
theorem Cmp.pair (s : SqL K H p [v, u]) (h : Cmp K H v d) (h' : Cmp K H u e) : Cmp K H (.ref p) (.lst [d, e]) := fun f => by
  have f' : (flatD d && (flatD e && true)) = true := f
  simp only [Bool.and_true, Bool.and_eq_true] at f'
  exact .lst s (.cons (h f'.1) (.cons (h' f'.2) .nil))
end
end Y

set_option Elab.async false
set_option linter.all false
set_option maxRecDepth 100000
set_option maxHeartbeats 4000000
namespace A
open PySem PySem.Spec PyProof.Rows L2 Y
open Y.Enc (enc)
abbrev top (i : Nat) : Stmt := PySem.Challenge.pw_lanescroll_k15_edits_over_edits.main.body.getD i (.Pass ⟨0, 0, 0, 0⟩)
/-! ### divisor -/
def m_divisor (a_one : Int) (a_other : Int) : Res Int :=
  lt ((absI a_one) : Int) fun x1 => lt ((absI a_other) : Int) fun x2 => (whileR (x2.natAbs + 1) ((x1, x2) : Int × Int) (fun (a12 : Int × Int) => (if (decide (0 < a12.2)) = true then guardR (0 < a12.2) <| lt ((a12.1 % a12.2) : Int) fun x16 => .ok (.nx (a12.2, x16)) else .ok (.bk (a12.1, a12.2))))).bind (afterR fun a17 => .ok a17.1)
def sp_divisor (K : PySem.W.Frag) : Sp := fun vs H Q _ => ∃ (B : Hp) (a_one : Int) (a_other : Int), Ex B H ∧ vs = [.int a_one, .int a_other] ∧ Post (m_divisor a_one a_other) (fun r => Ret K [] B H (enc r) Q) (fun _ => False)
abbrev s_divisor : Stmt := top 7
theorem sc_divisor : FnScope ["one", "other"] ["one", "other"] (defScope s_divisor) := ⟨rfl, rfl, rfl, by decide +kernel, rfl, by decide +kernel, by decide +kernel⟩
/-! ### is_number -/
def m_is_number (a_thing : D) : Res Bool :=
  (if (isA "int" a_thing) = true then .ok (!(isA "bool" a_thing)) else .ok false)
def sp_is_number (K : PySem.W.Frag) : Sp := fun vs H Q _ => ∃ (B : Hp) (v_thing : V) (a_thing : D), Ex B H ∧ vs = [v_thing] ∧ Rep K B v_thing (enc a_thing) ∧ Post (m_is_number a_thing) (fun r => Ret K [] B H (enc r) Q) (fun _ => False)
abbrev s_is_number : Stmt := top 8
theorem sc_is_number : FnScope ["thing"] ["thing"] (defScope s_is_number) := ⟨rfl, rfl, rfl, by decide +kernel, rfl, by decide +kernel, by decide +kernel⟩
/-! ### fraction -/
def m_fraction (a_top : D) (a_bottom : D) : Res (Tp2 Int Int) :=
  ((m_is_number a_top).noErr).bind fun x1 => (if x1 = true then ((m_is_number a_bottom).noErr).bind fun x7 => (if x7 = true then guardR (okEq a_bottom (enc (0 : Int))) <| (if (eqD a_bottom (enc (0 : Int))) = true then .err ⟨"NoFraction", []⟩ else (asI a_top).bind fun i13 => (asI a_bottom).bind fun i16 => ((m_divisor i13 i16).noErr).bind fun x19 => ((if (decide (i16 < 0)) = true then lt ((-x19) : Int) fun x28 => .ok x28 else .ok x19) : Res (Int)).bind fun a29 => guardR (CDivZ i13 a29) <| guardR (CDivZ i16 a29) <| .ok (⟨(Int.fdiv i13 a29), (Int.fdiv i16 a29)⟩ : (Tp2 Int Int))) else .err ⟨"NoFraction", []⟩) else .err ⟨"NoFraction", []⟩)
def sp_fraction (K : PySem.W.Frag) (mg : Str → Option Value) : Sp := fun vs H Q E => ∃ (B : Hp) (v_top : V) (a_top : D) (v_bottom : V) (a_bottom : D), Ex B H ∧ vs = [v_top, v_bottom] ∧ Rep K B v_top (enc a_top) ∧ Rep K B v_bottom (enc a_bottom) ∧ Post (m_fraction a_top a_bottom) (fun r => Ret K [] B H (enc r) Q) (fun e => Rai mg [] B H e E)
abbrev s_fraction : Stmt := top 9
theorem sc_fraction : FnScope ["top", "bottom", "share"] ["top", "bottom"] (defScope s_fraction) := ⟨rfl, rfl, rfl, by decide +kernel, rfl, by decide +kernel, by decide +kernel⟩
/-! ### is_fraction -/
def m_is_fraction (a_thing : D) : Res Bool :=
  (if (isA "tuple" a_thing) = true then (asT a_thing).bind fun l1 => (if (!decide ((l1.length : Int) = 2)) = true then .ok false else (asT a_thing).bind fun l8 => guardR (l8.length = 2) <| (ixR l8 0).bind fun x16 => (ixR l8 1).bind fun x20 => (m_is_number x16).bind fun x24 => (if x24 = true then (m_is_number x20).bind fun x30 => (if x30 = true then (asI x20).bind fun i36 => (if (decide (i36 < 1)) = true then .ok false else (asI x16).bind fun i39 => (m_divisor i39 i36).bind fun x42 => .ok (decide (x42 = 1))) else .ok false) else .ok false)) else .ok false)
def sp_is_fraction (K : PySem.W.Frag) : Sp := fun vs H Q _ => ∃ (B : Hp) (v_thing : V) (a_thing : D), Ex B H ∧ vs = [v_thing] ∧ Rep K B v_thing (enc a_thing) ∧ Post (m_is_fraction a_thing) (fun r => Ret K [] B H (enc r) Q) (fun _ => False)
abbrev s_is_fraction : Stmt := top 10
theorem sc_is_fraction : FnScope ["thing", "top", "bottom"] ["thing"] (defScope s_is_fraction) := ⟨rfl, rfl, rfl, by decide +kernel, rfl, by decide +kernel, by decide +kernel⟩
/-! ### is_moment -/
def m_is_moment (a_thing : D) : Res Bool :=
  (m_is_fraction a_thing).bind fun x1 => (if x1 = true then (asT a_thing).bind fun l7 => (ixR l7 0).bind fun x14 => (asI x14).bind fun i18 => .ok (decide (0 ≤ i18)) else .ok false)
def sp_is_moment (K : PySem.W.Frag) : Sp := fun vs H Q _ => ∃ (B : Hp) (v_thing : V) (a_thing : D), Ex B H ∧ vs = [v_thing] ∧ Rep K B v_thing (enc a_thing) ∧ Post (m_is_moment a_thing) (fun r => Ret K [] B H (enc r) Q) (fun _ => False)
abbrev s_is_moment : Stmt := top 11
theorem sc_is_moment : FnScope ["thing"] ["thing"] (defScope s_is_moment) := ⟨rfl, rfl, rfl, by decide +kernel, rfl, by decide +kernel, by decide +kernel⟩
/-! ### plus -/
def m_plus (a_one : (Tp2 Int Int)) (a_other : (Tp2 Int Int)) : Res (Tp2 Int Int) :=
  guardR (CMulW a_one.a a_other.b) <| guardR (CMulW a_other.a a_one.b) <| guardR (CMulW a_one.b a_other.b) <| (m_fraction (enc (((a_one.a * a_other.b) + (a_other.a * a_one.b)) : Int)) (enc ((a_one.b * a_other.b) : Int))).bind fun x37 => .ok x37
def sp_plus (K : PySem.W.Frag) (mg : Str → Option Value) : Sp := fun vs H Q E => ∃ (B : Hp) (v_one : V) (a_one : (Tp2 Int Int)) (v_other : V) (a_other : (Tp2 Int Int)), Ex B H ∧ vs = [v_one, v_other] ∧ Rep K B v_one (enc a_one) ∧ Rep K B v_other (enc a_other) ∧ Post (m_plus a_one a_other) (fun r => Ret K [] B H (enc r) Q) (fun e => Rai mg [] B H e E)
abbrev s_plus : Stmt := top 12
theorem sc_plus : FnScope ["one", "other"] ["one", "other"] (defScope s_plus) := ⟨rfl, rfl, rfl, by decide +kernel, rfl, by decide +kernel, by decide +kernel⟩
/-! ### minus -/
def m_minus (a_one : (Tp2 Int Int)) (a_other : (Tp2 Int Int)) : Res (Tp2 Int Int) :=
  guardR (CMulW a_one.a a_other.b) <| guardR (CMulW a_other.a a_one.b) <| guardR (CMulW a_one.b a_other.b) <| (m_fraction (enc (((a_one.a * a_other.b) - (a_other.a * a_one.b)) : Int)) (enc ((a_one.b * a_other.b) : Int))).bind fun x37 => .ok x37
def sp_minus (K : PySem.W.Frag) (mg : Str → Option Value) : Sp := fun vs H Q E => ∃ (B : Hp) (v_one : V) (a_one : (Tp2 Int Int)) (v_other : V) (a_other : (Tp2 Int Int)), Ex B H ∧ vs = [v_one, v_other] ∧ Rep K B v_one (enc a_one) ∧ Rep K B v_other (enc a_other) ∧ Post (m_minus a_one a_other) (fun r => Ret K [] B H (enc r) Q) (fun e => Rai mg [] B H e E)
abbrev s_minus : Stmt := top 13
theorem sc_minus : FnScope ["one", "other"] ["one", "other"] (defScope s_minus) := ⟨rfl, rfl, rfl, by decide +kernel, rfl, by decide +kernel, by decide +kernel⟩
/-! ### times -/
def m_times (a_one : (Tp2 Int Int)) (a_other : (Tp2 Int Int)) : Res (Tp2 Int Int) :=
  guardR (CMulW a_one.a a_other.a) <| guardR (CMulW a_one.b a_other.b) <| (m_fraction (enc ((a_one.a * a_other.a) : Int)) (enc ((a_one.b * a_other.b) : Int))).bind fun x25 => .ok x25
def sp_times (K : PySem.W.Frag) (mg : Str → Option Value) : Sp := fun vs H Q E => ∃ (B : Hp) (v_one : V) (a_one : (Tp2 Int Int)) (v_other : V) (a_other : (Tp2 Int Int)), Ex B H ∧ vs = [v_one, v_other] ∧ Rep K B v_one (enc a_one) ∧ Rep K B v_other (enc a_other) ∧ Post (m_times a_one a_other) (fun r => Ret K [] B H (enc r) Q) (fun e => Rai mg [] B H e E)
abbrev s_times : Stmt := top 14
theorem sc_times : FnScope ["one", "other"] ["one", "other"] (defScope s_times) := ⟨rfl, rfl, rfl, by decide +kernel, rfl, by decide +kernel, by decide +kernel⟩
/-! ### shared -/
def m_shared (a_one : (Tp2 Int Int)) (a_other : (Tp2 Int Int)) : Res (Tp2 Int Int) :=
  (if (decide (a_other.a = 0)) = true then .err ⟨"NoFraction", []⟩ else guardR (CMulW a_one.a a_other.b) <| guardR (CMulW a_one.b a_other.a) <| (m_fraction (enc ((a_one.a * a_other.b) : Int)) (enc ((a_one.b * a_other.a) : Int))).bind fun x31 => .ok x31)
def sp_shared (K : PySem.W.Frag) (mg : Str → Option Value) : Sp := fun vs H Q E => ∃ (B : Hp) (v_one : V) (a_one : (Tp2 Int Int)) (v_other : V) (a_other : (Tp2 Int Int)), Ex B H ∧ vs = [v_one, v_other] ∧ Rep K B v_one (enc a_one) ∧ Rep K B v_other (enc a_other) ∧ Post (m_shared a_one a_other) (fun r => Ret K [] B H (enc r) Q) (fun e => Rai mg [] B H e E)
abbrev s_shared : Stmt := top 15
theorem sc_shared : FnScope ["one", "other"] ["one", "other"] (defScope s_shared) := ⟨rfl, rfl, rfl, by decide +kernel, rfl, by decide +kernel, by decide +kernel⟩
/-! ### less -/
def m_less (a_one : (Tp2 Int Int)) (a_other : (Tp2 Int Int)) : Res Bool :=
  guardR (CMulW a_one.a a_other.b) <| guardR (CMulW a_other.a a_one.b) <| .ok (decide ((a_one.a * a_other.b) < (a_other.a * a_one.b)))
def sp_less (K : PySem.W.Frag) : Sp := fun vs H Q _ => ∃ (B : Hp) (v_one : V) (a_one : (Tp2 Int Int)) (v_other : V) (a_other : (Tp2 Int Int)), Ex B H ∧ vs = [v_one, v_other] ∧ Rep K B v_one (enc a_one) ∧ Rep K B v_other (enc a_other) ∧ Post (m_less a_one a_other) (fun r => Ret K [] B H (enc r) Q) (fun _ => False)
abbrev s_less : Stmt := top 16
theorem sc_less : FnScope ["one", "other"] ["one", "other"] (defScope s_less) := ⟨rfl, rfl, rfl, by decide +kernel, rfl, by decide +kernel, by decide +kernel⟩
/-! ### sooner_of -/
def m_sooner_of (a_one : (Tp2 Int Int)) (a_other : (Tp2 Int Int)) : Res (Tp2 Int Int) :=
  (m_less a_other a_one).bind fun x1 => (if x1 = true then .ok a_other else .ok a_one)
def sp_sooner_of (K : PySem.W.Frag) : Sp := fun vs H Q _ => ∃ (B : Hp) (v_one : V) (a_one : (Tp2 Int Int)) (v_other : V) (a_other : (Tp2 Int Int)), Ex B H ∧ vs = [v_one, v_other] ∧ Rep K B v_one (enc a_one) ∧ Rep K B v_other (enc a_other) ∧ Post (m_sooner_of a_one a_other) (fun r => Ret K [] B H (enc r) Q) (fun _ => False)
abbrev s_sooner_of : Stmt := top 17
theorem sc_sooner_of : FnScope ["one", "other"] ["one", "other"] (defScope s_sooner_of) := ⟨rfl, rfl, rfl, by decide +kernel, rfl, by decide +kernel, by decide +kernel⟩
/-! ### later_of -/
def m_later_of (a_one : (Tp2 Int Int)) (a_other : (Tp2 Int Int)) : Res (Tp2 Int Int) :=
  (m_less a_one a_other).bind fun x1 => (if x1 = true then .ok a_other else .ok a_one)
def sp_later_of (K : PySem.W.Frag) : Sp := fun vs H Q _ => ∃ (B : Hp) (v_one : V) (a_one : (Tp2 Int Int)) (v_other : V) (a_other : (Tp2 Int Int)), Ex B H ∧ vs = [v_one, v_other] ∧ Rep K B v_one (enc a_one) ∧ Rep K B v_other (enc a_other) ∧ Post (m_later_of a_one a_other) (fun r => Ret K [] B H (enc r) Q) (fun _ => False)
abbrev s_later_of : Stmt := top 18
theorem sc_later_of : FnScope ["one", "other"] ["one", "other"] (defScope s_later_of) := ⟨rfl, rfl, rfl, by decide +kernel, rfl, by decide +kernel, by decide +kernel⟩
/-! ### is_edit -/
def m_is_edit (a_thing : D) : Res Bool :=
  (if (isA "tuple" a_thing) = true then (asT a_thing).bind fun l1 => (if (!decide ((l1.length : Int) = 3)) = true then .ok false else (asT a_thing).bind fun l8 => guardR (l8.length = 3) <| (ixR l8 0).bind fun x16 => (ixR l8 1).bind fun x20 => (ixR l8 2).bind fun x24 => (m_is_fraction x16).bind fun x28 => (if x28 = true then (asD (Tp2 Int Int) x16).bind fun x35 => (m_less (⟨0, 1⟩ : (Tp2 Int Int)) x35).bind fun x38 => (if x38 = true then (m_is_moment x24).bind fun x44 => (if x44 = true then (if (isNonD x20) = true then guardR (okEq x24 (enc (⟨0, 1⟩ : (Tp2 Int Int)))) <| .ok (eqD x24 (enc (⟨0, 1⟩ : (Tp2 Int Int)))) else (m_is_moment x20).bind fun x51 => .ok x51) else .ok false) else .ok false) else .ok false)) else .ok false)
def sp_is_edit (K : PySem.W.Frag) : Sp := fun vs H Q _ => ∃ (B : Hp) (v_thing : V) (a_thing : D), Ex B H ∧ vs = [v_thing] ∧ Rep K B v_thing (enc a_thing) ∧ Post (m_is_edit a_thing) (fun r => Ret K [] B H (enc r) Q) (fun _ => False)
abbrev s_is_edit : Stmt := top 20
theorem sc_is_edit : FnScope ["thing", "span", "start", "rate"] ["thing"] (defScope s_is_edit) := ⟨rfl, rfl, rfl, by decide +kernel, rfl, by decide +kernel, by decide +kernel⟩
/-! ### is_edits -/
def m_is_edits (a_thing : (List (Tp3 (Tp2 Int Int) (Option (Tp2 Int Int)) (Tp2 Int Int)))) : Res Bool :=
  (if (isA "list" (enc a_thing)) = true then (compR (a_thing) (() : Unit) (fun x12 (a16 : Unit) => (m_is_edit (enc x12)).bind fun x28 => .ok (some x28, ()))).bind <| un2 fun acc15 a16 => .ok (acc15.all id) else .ok false)
def sp_is_edits (K : PySem.W.Frag) : Sp := fun vs H Q _ => ∃ (B : Hp) (v_thing : V) (a_thing : (List (Tp3 (Tp2 Int Int) (Option (Tp2 Int Int)) (Tp2 Int Int)))), Ex B H ∧ vs = [v_thing] ∧ Bor K B H [] v_thing (a_thing.map enc) ∧ Post (m_is_edits a_thing) (fun r => Ret K [] B H (enc r) Q) (fun _ => False)
abbrev s_is_edits : Stmt := top 21
theorem sc_is_edits : FnScope ["thing", "edit"] ["thing"] (defScope s_is_edits) := ⟨rfl, rfl, rfl, by decide +kernel, rfl, by decide +kernel, by decide +kernel⟩
/-! ### sure_edits -/
def m_sure_edits (a_thing : (List (Tp3 (Tp2 Int Int) (Option (Tp2 Int Int)) (Tp2 Int Int)))) : Res Unit :=
  ((m_is_edits a_thing).noErr).bind fun x1 => (if x1 = true then .ok () else .err ⟨"NoEdits", []⟩)
def sp_sure_edits (K : PySem.W.Frag) (mg : Str → Option Value) : Sp := fun vs H Q E => ∃ (B : Hp) (v_thing : V) (a_thing : (List (Tp3 (Tp2 Int Int) (Option (Tp2 Int Int)) (Tp2 Int Int)))), Ex B H ∧ vs = [v_thing] ∧ Bor K B H [] v_thing (a_thing.map enc) ∧ Post (m_sure_edits a_thing) (fun r => Ret K [] B H (enc r) Q) (fun e => Rai mg [] B H e E)
abbrev s_sure_edits : Stmt := top 22
theorem sc_sure_edits : FnScope ["thing"] ["thing"] (defScope s_sure_edits) := ⟨rfl, rfl, rfl, by decide +kernel, rfl, by decide +kernel, by decide +kernel⟩
/-! ### sure_moment -/
def m_sure_moment (a_thing : D) : Res Unit :=
  ((m_is_moment a_thing).noErr).bind fun x1 => (if x1 = true then .ok () else .err ⟨"NoMoment", []⟩)
def sp_sure_moment (K : PySem.W.Frag) (mg : Str → Option Value) : Sp := fun vs H Q E => ∃ (B : Hp) (v_thing : V) (a_thing : D), Ex B H ∧ vs = [v_thing] ∧ Rep K B v_thing (enc a_thing) ∧ Post (m_sure_moment a_thing) (fun r => Ret K [] B H (enc r) Q) (fun e => Rai mg [] B H e E)
abbrev s_sure_moment : Stmt := top 23
theorem sc_sure_moment : FnScope ["thing"] ["thing"] (defScope s_sure_moment) := ⟨rfl, rfl, rfl, by decide +kernel, rfl, by decide +kernel, by decide +kernel⟩
/-! ### led_by -/
def m_led_by (a_edit : (Tp3 (Tp2 Int Int) (Option (Tp2 Int Int)) (Tp2 Int Int))) (a_later : (Tp2 Int Int)) : Res (Option (Tp2 Int Int)) :=
  (if (isNonD (enc a_edit.b)) = true then .ok none else (m_times a_edit.c a_later).bind fun x19 => (someR a_edit.b).bind fun x26 => (m_plus x26 x19).bind fun x29 => .ok (some x29))
def sp_led_by (K : PySem.W.Frag) (mg : Str → Option Value) : Sp := fun vs H Q E => ∃ (B : Hp) (v_edit : V) (a_edit : (Tp3 (Tp2 Int Int) (Option (Tp2 Int Int)) (Tp2 Int Int))) (v_later : V) (a_later : (Tp2 Int Int)), Ex B H ∧ vs = [v_edit, v_later] ∧ Rep K B v_edit (enc a_edit) ∧ Rep K B v_later (enc a_later) ∧ Post (m_led_by a_edit a_later) (fun r => Ret K [] B H (enc r) Q) (fun e => Rai mg [] B H e E)
abbrev s_led_by : Stmt := top 24
theorem sc_led_by : FnScope ["edit", "later"] ["edit", "later"] (defScope s_led_by) := ⟨rfl, rfl, rfl, by decide +kernel, rfl, by decide +kernel, by decide +kernel⟩
/-! ### mapped -/
def m_mapped (a_edits : (List (Tp3 (Tp2 Int Int) (Option (Tp2 Int Int)) (Tp2 Int Int)))) (a_t : (Tp2 Int Int)) : Res (Option (Tp2 Int Int)) :=
  (m_sure_edits a_edits).bind fun x1 => (m_sure_moment (enc a_t)).bind fun x8 => (forR (a_edits) (a_t : (Tp2 Int Int)) (fun x27 (a26 : (Tp2 Int Int)) => ((m_less a26 x27.a).noErr).bind fun x42 => (if x42 = true then (m_led_by x27 a26).bind fun x48 => .ok (.rt x48) else (m_minus a26 x27.a).bind fun x61 => .ok (.nx x61)))).bind (afterR fun a68 => .ok none)
def sp_mapped (K : PySem.W.Frag) (mg : Str → Option Value) : Sp := fun vs H Q E => ∃ (B : Hp) (v_edits : V) (a_edits : (List (Tp3 (Tp2 Int Int) (Option (Tp2 Int Int)) (Tp2 Int Int)))) (v_t : V) (a_t : (Tp2 Int Int)), Ex B H ∧ vs = [v_edits, v_t] ∧ Bor K B H [] v_edits (a_edits.map enc) ∧ Rep K B v_t (enc a_t) ∧ Post (m_mapped a_edits a_t) (fun r => Ret K [] B H (enc r) Q) (fun e => Rai mg [] B H e E)
abbrev s_mapped : Stmt := top 25
theorem sc_mapped : FnScope ["edits", "t", "later", "edit"] ["edits", "t"] (defScope s_mapped) := ⟨rfl, rfl, rfl, by decide +kernel, rfl, by decide +kernel, by decide +kernel⟩
/-! ### goes_on -/
def m_goes_on (a_one : (Tp3 (Tp2 Int Int) (Option (Tp2 Int Int)) (Tp2 Int Int))) (a_other : (Tp3 (Tp2 Int Int) (Option (Tp2 Int Int)) (Tp2 Int Int))) : Res Bool :=
  ((if (isNonD (enc a_one.b)) = true then .ok true else .ok (isNonD (enc a_other.b))) : Res Bool).bind fun b16 => (if b16 = true then (if (isNonD (enc a_one.b)) = true then .ok (isNonD (enc a_other.b)) else .ok false) else guardR (okEq (enc a_one.c) (enc a_other.c)) <| (if (eqD (enc a_one.c) (enc a_other.c)) = true then (m_led_by a_one a_one.a).bind fun x56 => guardR (okEq (enc a_other.b) (enc x56)) <| .ok (eqD (enc a_other.b) (enc x56)) else .ok false))
def sp_goes_on (K : PySem.W.Frag) (mg : Str → Option Value) : Sp := fun vs H Q E => ∃ (B : Hp) (v_one : V) (a_one : (Tp3 (Tp2 Int Int) (Option (Tp2 Int Int)) (Tp2 Int Int))) (v_other : V) (a_other : (Tp3 (Tp2 Int Int) (Option (Tp2 Int Int)) (Tp2 Int Int))), Ex B H ∧ vs = [v_one, v_other] ∧ Rep K B v_one (enc a_one) ∧ Rep K B v_other (enc a_other) ∧ Post (m_goes_on a_one a_other) (fun r => Ret K [] B H (enc r) Q) (fun e => Rai mg [] B H e E)
abbrev s_goes_on : Stmt := top 26
theorem sc_goes_on : FnScope ["one", "other"] ["one", "other"] (defScope s_goes_on) := ⟨rfl, rfl, rfl, by decide +kernel, rfl, by decide +kernel, by decide +kernel⟩
/-! ### tidy -/
def m_tidy (a_edits : (List (Tp3 (Tp2 Int Int) (Option (Tp2 Int Int)) (Tp2 Int Int)))) : Res (List (Tp3 (Tp2 Int Int) (Option (Tp2 Int Int)) (Tp2 Int Int))) :=
  (m_sure_edits a_edits).bind fun x1 => (forR (a_edits) (([] : List (Tp3 (Tp2 Int Int) (Option (Tp2 Int Int)) (Tp2 Int Int))) : (List (Tp3 (Tp2 Int Int) (Option (Tp2 Int Int)) (Tp2 Int Int)))) (fun x26 (a25 : (List (Tp3 (Tp2 Int Int) (Option (Tp2 Int Int)) (Tp2 Int Int)))) => ((guardR (okEq (enc a25) (enc ([] : List D))) <| (if (!(eqD (enc a25) (enc ([] : List D)))) = true then (ixR a25 (-1)).bind fun x53 => (m_goes_on x53 x26).bind fun x57 => .ok x57 else .ok false) : Res Bool).bind fun b64 => (if b64 = true then (popE a25).bind fun x70 => (m_plus x70.1.a x26.a).bind fun x87 => .ok ((⟨x87, x70.1.b, x70.1.c⟩ : (Tp3 (Tp2 Int Int) (Option (Tp2 Int Int)) (Tp2 Int Int))), x70.2) else .ok (x26, a25)) : Res ((Tp3 (Tp2 Int Int) (Option (Tp2 Int Int)) (Tp2 Int Int)) × (List (Tp3 (Tp2 Int Int) (Option (Tp2 Int Int)) (Tp2 Int Int))))).bind fun a111 => guardR (a111.2.length < 1000000) <| .ok (.nx (a111.2 ++ [a111.1])))).bind (afterR fun a120 => ((guardR (okEq (enc a120) (enc ([] : List D))) <| (if (!(eqD (enc a120) (enc ([] : List D)))) = true then (ixR a120 (-1)).bind fun x145 => .ok (isNonD (enc x145.b)) else .ok false) : Res Bool).bind fun b155 => (if b155 = true then (popE a120).bind fun x161 => .ok x161.2 else .ok a120) : Res ((List (Tp3 (Tp2 Int Int) (Option (Tp2 Int Int)) (Tp2 Int Int))))).bind fun a166 => .ok a166)
def sp_tidy (K : PySem.W.Frag) (mg : Str → Option Value) : Sp := fun vs H Q E => ∃ (B : Hp) (v_edits : V) (a_edits : (List (Tp3 (Tp2 Int Int) (Option (Tp2 Int Int)) (Tp2 Int Int)))), Ex B H ∧ vs = [v_edits] ∧ Bor K B H [] v_edits (a_edits.map enc) ∧ Post (m_tidy a_edits) (fun r => RetF K [] B H (r.map enc) Q) (fun e => Rai mg [] B H e E)
abbrev s_tidy : Stmt := top 27
theorem sc_tidy : FnScope ["edits", "found", "edit", "before"] ["edits"] (defScope s_tidy) := ⟨rfl, rfl, rfl, by decide +kernel, rfl, by decide +kernel, by decide +kernel⟩
/-! ### pieces_within -/
def m_pieces_within (a_edits : (List (Tp3 (Tp2 Int Int) (Option (Tp2 Int Int)) (Tp2 Int Int)))) (a_low : (Tp2 Int Int)) (a_high : (Tp2 Int Int)) : Res (List (Tp3 (Tp2 Int Int) (Option (Tp2 Int Int)) (Tp2 Int Int))) :=
  (forR (a_edits) (((⟨0, 1⟩ : (Tp2 Int Int)), ([] : List (Tp3 (Tp2 Int Int) (Option (Tp2 Int Int)) (Tp2 Int Int)))) : (Tp2 Int Int) × (List (Tp3 (Tp2 Int Int) (Option (Tp2 Int Int)) (Tp2 Int Int)))) (fun x20 (a19 : (Tp2 Int Int) × (List (Tp3 (Tp2 Int Int) (Option (Tp2 Int Int)) (Tp2 Int Int)))) => (m_plus a19.1 x20.a).bind fun x38 => ((m_later_of a19.1 a_low).noErr).bind fun x45 => ((m_sooner_of x38 a_high).noErr).bind fun x51 => (((m_less x45 x51).noErr).bind fun x60 => (if x60 = true then (m_minus x51 x45).bind fun x66 => (m_minus x45 a19.1).bind fun x73 => (m_led_by x20 x73).bind fun x80 => guardR (a19.2.length < 1000000) <| .ok (a19.2 ++ [(⟨x66, x80, x20.c⟩ : (Tp3 (Tp2 Int Int) (Option (Tp2 Int Int)) (Tp2 Int Int)))]) else .ok a19.2) : Res ((List (Tp3 (Tp2 Int Int) (Option (Tp2 Int Int)) (Tp2 Int Int))))).bind fun a100 => .ok (.nx (x38, a100)))).bind (afterR fun a104 => ((m_later_of a104.1 a_low).noErr).bind fun x114 => (((m_less x114 a_high).noErr).bind fun x123 => (if x123 = true then (m_minus a_high x114).bind fun x129 => guardR (a104.2.length < 1000000) <| .ok (a104.2 ++ [(⟨(⟨x129, (), (⟨0, 1⟩ : (Tp2 Int Int))⟩ : (Tp3 (Tp2 Int Int) Unit (Tp2 Int Int))).a, none, (⟨x129, (), (⟨0, 1⟩ : (Tp2 Int Int))⟩ : (Tp3 (Tp2 Int Int) Unit (Tp2 Int Int))).c⟩ : (Tp3 (Tp2 Int Int) (Option (Tp2 Int Int)) (Tp2 Int Int)))]) else .ok a104.2) : Res ((List (Tp3 (Tp2 Int Int) (Option (Tp2 Int Int)) (Tp2 Int Int))))).bind fun a144 => .ok a144)
def sp_pieces_within (K : PySem.W.Frag) (mg : Str → Option Value) : Sp := fun vs H Q E => ∃ (B : Hp) (v_edits : V) (a_edits : (List (Tp3 (Tp2 Int Int) (Option (Tp2 Int Int)) (Tp2 Int Int)))) (v_low : V) (a_low : (Tp2 Int Int)) (v_high : V) (a_high : (Tp2 Int Int)), Ex B H ∧ vs = [v_edits, v_low, v_high] ∧ Bor K B H [] v_edits (a_edits.map enc) ∧ Rep K B v_low (enc a_low) ∧ Rep K B v_high (enc a_high) ∧ Post (m_pieces_within a_edits a_low a_high) (fun r => RetF K [] B H (r.map enc) Q) (fun e => Rai mg [] B H e E)
abbrev s_pieces_within : Stmt := top 28
theorem sc_pieces_within : FnScope ["edits", "low", "high", "found", "begin", "edit", "end", "first", "last"] ["edits", "low", "high"] (defScope s_pieces_within) := ⟨rfl, rfl, rfl, by decide +kernel, rfl, by decide +kernel, by decide +kernel⟩
/-! ### led_through -/
def m_led_through (a_edit : (Tp3 (Tp2 Int Int) (Option (Tp2 Int Int)) (Tp2 Int Int))) (a_inner : (List (Tp3 (Tp2 Int Int) (Option (Tp2 Int Int)) (Tp2 Int Int)))) : Res (List (Tp3 (Tp2 Int Int) (Option (Tp2 Int Int)) (Tp2 Int Int))) :=
  (if (isNonD (enc a_edit.b)) = true then .ok ([a_edit] : List (Tp3 (Tp2 Int Int) (Option (Tp2 Int Int)) (Tp2 Int Int))) else guardR (okEq (enc a_edit.c) (enc (⟨0, 1⟩ : (Tp2 Int Int)))) <| (if (eqD (enc a_edit.c) (enc (⟨0, 1⟩ : (Tp2 Int Int)))) = true then (someR a_edit.b).bind fun x18 => (m_mapped a_inner x18).bind fun x21 => .ok ([(⟨a_edit.a, x21, (⟨0, 1⟩ : (Tp2 Int Int))⟩ : (Tp3 (Tp2 Int Int) (Option (Tp2 Int Int)) (Tp2 Int Int)))] : List (Tp3 (Tp2 Int Int) (Option (Tp2 Int Int)) (Tp2 Int Int))) else (m_times a_edit.c a_edit.a).bind fun x46 => (someR a_edit.b).bind fun x53 => (m_plus x53 x46).bind fun x56 => (someR a_edit.b).bind fun x63 => (m_pieces_within a_inner x63 x56).bind fun x66 => (forR (x66) (([] : List (Tp3 (Tp2 Int Int) (Option (Tp2 Int Int)) (Tp2 Int Int))) : (List (Tp3 (Tp2 Int Int) (Option (Tp2 Int Int)) (Tp2 Int Int)))) (fun x96 (a95 : (List (Tp3 (Tp2 Int Int) (Option (Tp2 Int Int)) (Tp2 Int Int)))) => (m_shared x96.a a_edit.c).bind fun x115 => (m_times a_edit.c x96.c).bind fun x122 => guardR (a95.length < 1000000) <| .ok (.nx (a95 ++ [(⟨x115, x96.b, x122⟩ : (Tp3 (Tp2 Int Int) (Option (Tp2 Int Int)) (Tp2 Int Int)))])))).bind (afterR fun a136 => .ok a136)))
def sp_led_through (K : PySem.W.Frag) (mg : Str → Option Value) : Sp := fun vs H Q E => ∃ (B : Hp) (v_edit : V) (a_edit : (Tp3 (Tp2 Int Int) (Option (Tp2 Int Int)) (Tp2 Int Int))) (v_inner : V) (a_inner : (List (Tp3 (Tp2 Int Int) (Option (Tp2 Int Int)) (Tp2 Int Int)))), Ex B H ∧ vs = [v_edit, v_inner] ∧ Rep K B v_edit (enc a_edit) ∧ Bor K B H [] v_inner (a_inner.map enc) ∧ Post (m_led_through a_edit a_inner) (fun r => RetF K [] B H (r.map enc) Q) (fun e => Rai mg [] B H e E)
abbrev s_led_through : Stmt := top 29
theorem sc_led_through : FnScope ["edit", "inner", "span", "start", "rate", "found", "length", "first", "pace"] ["edit", "inner"] (defScope s_led_through) := ⟨rfl, rfl, rfl, by decide +kernel, rfl, by decide +kernel, by decide +kernel⟩
/-! ### over -/
def m_over (a_outer : (List (Tp3 (Tp2 Int Int) (Option (Tp2 Int Int)) (Tp2 Int Int)))) (a_inner : (List (Tp3 (Tp2 Int Int) (Option (Tp2 Int Int)) (Tp2 Int Int)))) : Res (List (Tp3 (Tp2 Int Int) (Option (Tp2 Int Int)) (Tp2 Int Int))) :=
  (m_sure_edits a_outer).bind fun x1 => (m_sure_edits a_inner).bind fun x8 => (forR (a_outer) (([] : List (Tp3 (Tp2 Int Int) (Option (Tp2 Int Int)) (Tp2 Int Int))) : (List (Tp3 (Tp2 Int Int) (Option (Tp2 Int Int)) (Tp2 Int Int)))) (fun x33 (a32 : (List (Tp3 (Tp2 Int Int) (Option (Tp2 Int Int)) (Tp2 Int Int)))) => (m_led_through x33 a_inner).bind fun x40 => guardR (a32.length + x40.length ≤ 1000000) <| .ok (.nx (a32 ++ x40)))).bind (afterR fun a56 => (m_tidy a56).bind fun x61 => .ok x61)
def sp_over (K : PySem.W.Frag) (mg : Str → Option Value) : Sp := fun vs H Q E => ∃ (B : Hp) (v_outer : V) (a_outer : (List (Tp3 (Tp2 Int Int) (Option (Tp2 Int Int)) (Tp2 Int Int)))) (v_inner : V) (a_inner : (List (Tp3 (Tp2 Int Int) (Option (Tp2 Int Int)) (Tp2 Int Int)))), Ex B H ∧ vs = [v_outer, v_inner] ∧ Bor K B H [] v_outer (a_outer.map enc) ∧ Bor K B H [] v_inner (a_inner.map enc) ∧ Post (m_over a_outer a_inner) (fun r => RetF K [] B H (r.map enc) Q) (fun e => Rai mg [] B H e E)
abbrev s_over : Stmt := top 30
theorem sc_over : FnScope ["outer", "inner", "found", "edit"] ["outer", "inner"] (defScope s_over) := ⟨rfl, rfl, rfl, by decide +kernel, rfl, by decide +kernel, by decide +kernel⟩
/-! ### _law_cell_at -/
def l_cell_at (a_script : (List Int)) (a_k : Int) : Res Int :=
  (if (decide (a_k < (a_script.length : Int))) = true then (ixR a_script a_k).bind fun x9 => .ok x9 else .ok 0)
def sp__law_cell_at (K : PySem.W.Frag) : Sp := fun vs H Q _ => ∃ (B : Hp) (v_script : V) (a_script : (List Int)) (a_k : Int), Ex B H ∧ vs = [v_script, .int a_k] ∧ Bor K B H [] v_script (a_script.map enc) ∧ Post (l_cell_at a_script a_k) (fun r => Ret K [] B H (enc r) Q) (fun _ => False)
abbrev s__law_cell_at : Stmt := top 32
theorem sc__law_cell_at : FnScope ["_law_script", "_law_k"] ["_law_script", "_law_k"] (defScope s__law_cell_at) := ⟨rfl, rfl, rfl, by decide +kernel, rfl, by decide +kernel, by decide +kernel⟩
/-! ### _law_digit -/
def l_digit (a_state : (List Int)) (a_base : Int) : Res (Int × (List Int)) :=
  ((if (decide ((a_state.length : Int) = 1)) = true then (ixR a_state 0).bind fun x12 => guardR (a_state.length + ([(x12 % 2147483647), 0] : List Int).length ≤ 1000000) <| .ok (a_state ++ ([(x12 % 2147483647), 0] : List Int)) else .ok a_state) : Res ((List Int))).bind fun a26 => (ixR a26 0).bind fun x34 => (if (decide (a_base ≤ x34)) = true then (ixR a26 0).bind fun x42 => guardR (0 < a_base) <| lt ((x42 % a_base) : Int) fun x46 => (ixR a26 0).bind fun x51 => guardR (CDivW x51 a_base) <| (setR a26 0 (x51 / a_base)).bind fun x55 => .ok (x46, x55) else (ixR a26 2).bind fun x64 => (setR a26 2 (x64 + 1)).bind fun x68 => (ixR x68 1).bind fun x77 => (ixR x68 2).bind fun x85 => lt (((((x77 + (7919 * x85)) + 1) * 48271) % 2147483647) : Int) fun x89 => guardR (CMulW x89 ((x89 / 1009) + 69621)) <| lt (((x89 * ((x89 / 1009) + 69621)) % 2147483647) : Int) fun x90 => guardR (CMulW x90 ((x90 / 2003) + 40692)) <| guardR (0 < a_base) <| .ok ((((x90 * ((x90 / 2003) + 40692)) % 2147483399) % a_base), x68))
def sp__law_digit (K : PySem.W.Frag) : Sp := fun vs H Q _ => ∃ (B : Hp) (p_state : Addr) (a_state : (List Int)) (a_base : Int), Ex B H ∧ vs = [.ref p_state, .int a_base] ∧ Mu K B H p_state (a_state.map enc) ∧ Post (l_digit a_state a_base) (fun r => RetM K p_state B H (enc r.1) (r.2.map enc) Q) (fun _ => False)
abbrev s__law_digit : Stmt := top 33
theorem sc__law_digit : FnScope ["_law_state", "_law_base", "_law_found", "_law_number"] ["_law_state", "_law_base"] (defScope s__law_digit) := ⟨rfl, rfl, rfl, by decide +kernel, rfl, by decide +kernel, by decide +kernel⟩
/-! ### _law_shared -/
def l_shared (a_one : Int) (a_other : Int) : Res Int :=
  lt ((absI a_one) : Int) fun x1 => lt ((absI a_other) : Int) fun x2 => (whileR (x2.natAbs + 1) ((x1, x2) : Int × Int) (fun (a12 : Int × Int) => (if (decide (0 < a12.2)) = true then guardR (0 < a12.2) <| lt ((a12.1 % a12.2) : Int) fun x16 => .ok (.nx (a12.2, x16)) else .ok (.bk (a12.1, a12.2))))).bind (afterR fun a17 => .ok a17.1)
def sp__law_shared (K : PySem.W.Frag) : Sp := fun vs H Q _ => ∃ (B : Hp) (a_one : Int) (a_other : Int), Ex B H ∧ vs = [.int a_one, .int a_other] ∧ Post (l_shared a_one a_other) (fun r => Ret K [] B H (enc r) Q) (fun _ => False)
abbrev s__law_shared : Stmt := top 34
theorem sc__law_shared : FnScope ["_law_one", "_law_other"] ["_law_one", "_law_other"] (defScope s__law_shared) := ⟨rfl, rfl, rfl, by decide +kernel, rfl, by decide +kernel, by decide +kernel⟩
/-! ### _law_lowest -/
def l_lowest (a_top : Int) (a_bottom : Int) : Res (Tp2 Int Int) :=
  (l_shared a_top a_bottom).bind fun x1 => guardR (CDivW a_top x1) <| guardR (CDivW a_bottom x1) <| .ok (⟨(a_top / x1), (a_bottom / x1)⟩ : (Tp2 Int Int))
def sp__law_lowest (K : PySem.W.Frag) : Sp := fun vs H Q _ => ∃ (B : Hp) (a_top : Int) (a_bottom : Int), Ex B H ∧ vs = [.int a_top, .int a_bottom] ∧ Post (l_lowest a_top a_bottom) (fun r => Ret K [] B H (enc r) Q) (fun _ => False)
abbrev s__law_lowest : Stmt := top 35
theorem sc__law_lowest : FnScope ["_law_top", "_law_bottom", "_law_share"] ["_law_top", "_law_bottom"] (defScope s__law_lowest) := ⟨rfl, rfl, rfl, by decide +kernel, rfl, by decide +kernel, by decide +kernel⟩
/-! ### _law_plus -/
def l_plus (a_one : (Tp2 Int Int)) (a_other : (Tp2 Int Int)) : Res (Tp2 Int Int) :=
  guardR (CMulW a_one.a a_other.b) <| guardR (CMulW a_other.a a_one.b) <| guardR (CMulW a_one.b a_other.b) <| (l_lowest ((a_one.a * a_other.b) + (a_other.a * a_one.b)) (a_one.b * a_other.b)).bind fun x37 => .ok x37
def sp__law_plus (K : PySem.W.Frag) : Sp := fun vs H Q _ => ∃ (B : Hp) (v_one : V) (a_one : (Tp2 Int Int)) (v_other : V) (a_other : (Tp2 Int Int)), Ex B H ∧ vs = [v_one, v_other] ∧ Rep K B v_one (enc a_one) ∧ Rep K B v_other (enc a_other) ∧ Post (l_plus a_one a_other) (fun r => Ret K [] B H (enc r) Q) (fun _ => False)
abbrev s__law_plus : Stmt := top 36
theorem sc__law_plus : FnScope ["_law_one", "_law_other"] ["_law_one", "_law_other"] (defScope s__law_plus) := ⟨rfl, rfl, rfl, by decide +kernel, rfl, by decide +kernel, by decide +kernel⟩
/-! ### _law_minus -/
def l_minus (a_one : (Tp2 Int Int)) (a_other : (Tp2 Int Int)) : Res (Tp2 Int Int) :=
  guardR (CMulW a_one.a a_other.b) <| guardR (CMulW a_other.a a_one.b) <| guardR (CMulW a_one.b a_other.b) <| (l_lowest ((a_one.a * a_other.b) - (a_other.a * a_one.b)) (a_one.b * a_other.b)).bind fun x37 => .ok x37
def sp__law_minus (K : PySem.W.Frag) : Sp := fun vs H Q _ => ∃ (B : Hp) (v_one : V) (a_one : (Tp2 Int Int)) (v_other : V) (a_other : (Tp2 Int Int)), Ex B H ∧ vs = [v_one, v_other] ∧ Rep K B v_one (enc a_one) ∧ Rep K B v_other (enc a_other) ∧ Post (l_minus a_one a_other) (fun r => Ret K [] B H (enc r) Q) (fun _ => False)
abbrev s__law_minus : Stmt := top 37
theorem sc__law_minus : FnScope ["_law_one", "_law_other"] ["_law_one", "_law_other"] (defScope s__law_minus) := ⟨rfl, rfl, rfl, by decide +kernel, rfl, by decide +kernel, by decide +kernel⟩
/-! ### _law_times -/
def l_times (a_one : (Tp2 Int Int)) (a_other : (Tp2 Int Int)) : Res (Tp2 Int Int) :=
  guardR (CMulW a_one.a a_other.a) <| guardR (CMulW a_one.b a_other.b) <| (l_lowest (a_one.a * a_other.a) (a_one.b * a_other.b)).bind fun x25 => .ok x25
def sp__law_times (K : PySem.W.Frag) : Sp := fun vs H Q _ => ∃ (B : Hp) (v_one : V) (a_one : (Tp2 Int Int)) (v_other : V) (a_other : (Tp2 Int Int)), Ex B H ∧ vs = [v_one, v_other] ∧ Rep K B v_one (enc a_one) ∧ Rep K B v_other (enc a_other) ∧ Post (l_times a_one a_other) (fun r => Ret K [] B H (enc r) Q) (fun _ => False)
abbrev s__law_times : Stmt := top 38
theorem sc__law_times : FnScope ["_law_one", "_law_other"] ["_law_one", "_law_other"] (defScope s__law_times) := ⟨rfl, rfl, rfl, by decide +kernel, rfl, by decide +kernel, by decide +kernel⟩
/-! ### _law_less -/
def l_less (a_one : (Tp2 Int Int)) (a_other : (Tp2 Int Int)) : Res Bool :=
  guardR (CMulW a_one.a a_other.b) <| guardR (CMulW a_other.a a_one.b) <| .ok (decide ((a_one.a * a_other.b) < (a_other.a * a_one.b)))
def sp__law_less (K : PySem.W.Frag) : Sp := fun vs H Q _ => ∃ (B : Hp) (v_one : V) (a_one : (Tp2 Int Int)) (v_other : V) (a_other : (Tp2 Int Int)), Ex B H ∧ vs = [v_one, v_other] ∧ Rep K B v_one (enc a_one) ∧ Rep K B v_other (enc a_other) ∧ Post (l_less a_one a_other) (fun r => Ret K [] B H (enc r) Q) (fun _ => False)
abbrev s__law_less : Stmt := top 39
theorem sc__law_less : FnScope ["_law_one", "_law_other"] ["_law_one", "_law_other"] (defScope s__law_less) := ⟨rfl, rfl, rfl, by decide +kernel, rfl, by decide +kernel, by decide +kernel⟩
/-! ### _law_amount -/
def l_amount (a_state : (List Int)) : Res ((Tp2 Int Int) × (List Int)) :=
  (l_digit a_state 7).bind fun x1 => (l_digit x1.2 13).bind fun x7 => (l_digit x7.2 4).bind fun x13 => (l_lowest x7.1 (1 + x13.1)).bind fun x19 => (l_digit x13.2 1000000000).bind fun x25 => (l_digit x25.2 1000000).bind fun x31 => (l_lowest ((x25.1 * 1000000) + x31.1) 1000003).bind fun x37 => (l_digit x31.2 1000000000).bind fun x43 => (l_lowest x43.1 997).bind fun x49 => (l_digit x43.2 7).bind fun x55 => (ixR ([x19, x19, (⟨x55.1, 1⟩ : (Tp2 Int Int)), (⟨0, 1⟩ : (Tp2 Int Int)), x19, x49, x37] : List (Tp2 Int Int)) x1.1).bind fun x80 => .ok (x80, x55.2)
def sp__law_amount (K : PySem.W.Frag) : Sp := fun vs H Q _ => ∃ (B : Hp) (p_state : Addr) (a_state : (List Int)), Ex B H ∧ vs = [.ref p_state] ∧ Mu K B H p_state (a_state.map enc) ∧ Post (l_amount a_state) (fun r => RetM K p_state B H (enc r.1) (r.2.map enc) Q) (fun _ => False)
abbrev s__law_amount : Stmt := top 40
theorem sc__law_amount : FnScope ["_law_state", "_law_way", "_law_small", "_law_great", "_law_far"] ["_law_state"] (defScope s__law_amount) := ⟨rfl, rfl, rfl, by decide +kernel, rfl, by decide +kernel, by decide +kernel⟩
/-! ### _law_edit -/
def l_edit (a_state : (List Int)) (a_ahead : (List (Tp3 (Tp2 Int Int) (Option (Tp2 Int Int)) (Tp2 Int Int)))) : Res ((Tp3 (Tp2 Int Int) (Option (Tp2 Int Int)) (Tp2 Int Int)) × (List Int)) :=
  (l_digit a_state 7).bind fun x1 => (l_amount x1.2).bind fun x7 => (l_digit x7.2 3).bind fun x13 => (l_lowest 1 (1 + x13.1)).bind fun x19 => (l_plus x7.1 x19).bind fun x25 => (l_amount x13.2).bind fun x31 => (l_amount x31.2).bind fun x62 => (l_digit x62.2 6).bind fun x73 => (ixR ([(⟨1, 1⟩ : (Tp2 Int Int)), (⟨1, 1⟩ : (Tp2 Int Int)), (⟨0, 1⟩ : (Tp2 Int Int)), (⟨2, 1⟩ : (Tp2 Int Int)), (⟨1, 2⟩ : (Tp2 Int Int)), x62.1] : List (Tp2 Int Int)) x73.1).bind fun x83 => (if (decide (x1.1 = 0)) = true then .ok ((⟨(⟨x25, (), (⟨0, 1⟩ : (Tp2 Int Int))⟩ : (Tp3 (Tp2 Int Int) Unit (Tp2 Int Int))).a, none, (⟨x25, (), (⟨0, 1⟩ : (Tp2 Int Int))⟩ : (Tp3 (Tp2 Int Int) Unit (Tp2 Int Int))).c⟩ : (Tp3 (Tp2 Int Int) (Option (Tp2 Int Int)) (Tp2 Int Int))), x73.2) else ((if (decide (x1.1 < 3)) = true then guardR (okEq (enc a_ahead) (enc ([] : List D))) <| (if (!(eqD (enc a_ahead) (enc ([] : List D)))) = true then (ixR a_ahead (-1)).bind fun x113 => .ok (!(isNonD (enc x113.b))) else .ok false) else .ok false) : Res Bool).bind fun b123 => (if b123 = true then (ixR a_ahead (-1)).bind fun x131 => (l_times x131.c x131.a).bind fun x153 => (someR x131.b).bind fun x159 => (l_plus x159 x153).bind fun x162 => .ok ((⟨(⟨x25, x162, x131.c⟩ : (Tp3 (Tp2 Int Int) (Tp2 Int Int) (Tp2 Int Int))).a, (some ((⟨x25, x162, x131.c⟩ : (Tp3 (Tp2 Int Int) (Tp2 Int Int) (Tp2 Int Int))).b)), (⟨x25, x162, x131.c⟩ : (Tp3 (Tp2 Int Int) (Tp2 Int Int) (Tp2 Int Int))).c⟩ : (Tp3 (Tp2 Int Int) (Option (Tp2 Int Int)) (Tp2 Int Int))), x73.2) else .ok ((⟨(⟨x25, x31.1, x83⟩ : (Tp3 (Tp2 Int Int) (Tp2 Int Int) (Tp2 Int Int))).a, (some ((⟨x25, x31.1, x83⟩ : (Tp3 (Tp2 Int Int) (Tp2 Int Int) (Tp2 Int Int))).b)), (⟨x25, x31.1, x83⟩ : (Tp3 (Tp2 Int Int) (Tp2 Int Int) (Tp2 Int Int))).c⟩ : (Tp3 (Tp2 Int Int) (Option (Tp2 Int Int)) (Tp2 Int Int))), x73.2)))
def sp__law_edit (K : PySem.W.Frag) : Sp := fun vs H Q _ => ∃ (B : Hp) (p_state : Addr) (a_state : (List Int)) (v_ahead : V) (a_ahead : (List (Tp3 (Tp2 Int Int) (Option (Tp2 Int Int)) (Tp2 Int Int)))), Ex B H ∧ vs = [.ref p_state, v_ahead] ∧ Mu K B H p_state (a_state.map enc) ∧ Bor K B H [p_state] v_ahead (a_ahead.map enc) ∧ Post (l_edit a_state a_ahead) (fun r => RetM K p_state B H (enc r.1) (r.2.map enc) Q) (fun _ => False)
abbrev s__law_edit : Stmt := top 41
theorem sc__law_edit : FnScope ["_law_state", "_law_ahead", "_law_way", "_law_span", "_law_start", "_law_rate", "_law_before"] ["_law_state", "_law_ahead"] (defScope s__law_edit) := ⟨rfl, rfl, rfl, by decide +kernel, rfl, by decide +kernel, by decide +kernel⟩
/-! ### _law_edits -/
def l_edits (a_state : (List Int)) (a_few : Int) : Res ((List (Tp3 (Tp2 Int Int) (Option (Tp2 Int Int)) (Tp2 Int Int))) × (List Int)) :=
  (l_digit a_state (a_few + 1)).bind fun x8 => guardR (-(2 ^ 62) ≤ (x8.1 : Int) ∧ (x8.1 : Int) < 2 ^ 62) <| (forR (rngI 0 x8.1) ((([] : List (Tp3 (Tp2 Int Int) (Option (Tp2 Int Int)) (Tp2 Int Int))), x8.2) : (List (Tp3 (Tp2 Int Int) (Option (Tp2 Int Int)) (Tp2 Int Int))) × (List Int)) (fun x23 (a22 : (List (Tp3 (Tp2 Int Int) (Option (Tp2 Int Int)) (Tp2 Int Int))) × (List Int)) => (l_edit a22.2 a22.1).bind fun x30 => guardR (a22.1.length < 1000000) <| .ok (.nx ((a22.1 ++ [x30.1]), x30.2)))).bind (afterR fun a38 => .ok (a38.1, a38.2))
def sp__law_edits (K : PySem.W.Frag) : Sp := fun vs H Q _ => ∃ (B : Hp) (p_state : Addr) (a_state : (List Int)) (a_few : Int), Ex B H ∧ vs = [.ref p_state, .int a_few] ∧ Mu K B H p_state (a_state.map enc) ∧ Post (l_edits a_state a_few) (fun r => RetM K p_state B H (enc r.1) (r.2.map enc) Q) (fun _ => False)
abbrev s__law_edits : Stmt := top 42
theorem sc__law_edits : FnScope ["_law_state", "_law_few", "_law_found", "_law_k"] ["_law_state", "_law_few"] (defScope s__law_edits) := ⟨rfl, rfl, rfl, by decide +kernel, rfl, by decide +kernel, by decide +kernel⟩
/-! ### _law_led -/
def l_led (a_edits_here : (List (Tp3 (Tp2 Int Int) (Option (Tp2 Int Int)) (Tp2 Int Int)))) (a_t : (Tp2 Int Int)) : Res (Option (Tp2 Int Int)) :=
  (forR (a_edits_here) (a_t : (Tp2 Int Int)) (fun x13 (a12 : (Tp2 Int Int)) => (l_less a12 x13.a).bind fun x34 => (if x34 = true then (if (isNonD (enc x13.b)) = true then .ok (.rt none) else (l_times x13.c a12).bind fun x40 => (someR x13.b).bind fun x46 => (l_plus x46 x40).bind fun x49 => .ok (.rt (some x49))) else (l_minus a12 x13.a).bind fun x55 => .ok (.nx x55)))).bind (afterR fun a61 => .ok none)
def sp__law_led (K : PySem.W.Frag) : Sp := fun vs H Q _ => ∃ (B : Hp) (v_edits_here : V) (a_edits_here : (List (Tp3 (Tp2 Int Int) (Option (Tp2 Int Int)) (Tp2 Int Int)))) (v_t : V) (a_t : (Tp2 Int Int)), Ex B H ∧ vs = [v_edits_here, v_t] ∧ Bor K B H [] v_edits_here (a_edits_here.map enc) ∧ Rep K B v_t (enc a_t) ∧ Post (l_led a_edits_here a_t) (fun r => Ret K [] B H (enc r) Q) (fun _ => False)
abbrev s__law_led : Stmt := top 43
theorem sc__law_led : FnScope ["_law_edits_here", "_law_t", "_law_span", "_law_start", "_law_rate"] ["_law_edits_here", "_law_t"] (defScope s__law_led) := ⟨rfl, rfl, rfl, by decide +kernel, rfl, by decide +kernel, by decide +kernel⟩
/-! ### _law_is_tidy -/
def l_is_tidy (a_edits_here : (List (Tp3 (Tp2 Int Int) (Option (Tp2 Int Int)) (Tp2 Int Int)))) : Res Bool :=
  ((if (isA "list" (enc a_edits_here)) = true then guardR (okEq (enc a_edits_here) (enc ([] : List D))) <| (if (!(eqD (enc a_edits_here) (enc ([] : List D)))) = true then (ixR a_edits_here (-1)).bind fun x21 => .ok (isNonD (enc x21.b)) else .ok false) else .ok true) : Res Bool).bind fun b31 => (if b31 = true then .ok false else guardR (-(2 ^ 62) ≤ (((a_edits_here.length : Int) - 1) : Int) ∧ (((a_edits_here.length : Int) - 1) : Int) < 2 ^ 62) <| (forR (rngI 0 ((a_edits_here.length : Int) - 1)) (() : Unit) (fun x48 (a47 : Unit) => (ixR a_edits_here x48).bind fun x62 => ((if (isNonD (enc x62.b)) = true then (ixR a_edits_here (x48 + 1)).bind fun x83 => .ok (isNonD (enc x83.b)) else .ok false) : Res Bool).bind fun b93 => (if b93 = true then .ok (.rt false) else ((if (!(isNonD (enc x62.b))) = true then (ixR a_edits_here (x48 + 1)).bind fun x104 => (if (!(isNonD (enc x104.b))) = true then (ixR a_edits_here (x48 + 1)).bind fun x118 => guardR (okEq (enc x62.c) (enc x118.c)) <| .ok (eqD (enc x62.c) (enc x118.c)) else .ok false) else .ok false) : Res Bool).bind fun b128 => (if b128 = true then (ixR a_edits_here (x48 + 1)).bind fun x136 => (l_times x62.c x62.a).bind fun x146 => (someR x62.b).bind fun x152 => (l_plus x152 x146).bind fun x155 => guardR (okEq (enc x136.b) (enc x155)) <| (if (eqD (enc x136.b) (enc x155)) = true then .ok (.rt false) else .ok (.nx ())) else .ok (.nx ()))))).bind (afterR fun a161 => .ok true))
def sp__law_is_tidy (K : PySem.W.Frag) : Sp := fun vs H Q _ => ∃ (B : Hp) (v_edits_here : V) (a_edits_here : (List (Tp3 (Tp2 Int Int) (Option (Tp2 Int Int)) (Tp2 Int Int)))), Ex B H ∧ vs = [v_edits_here] ∧ Bor K B H [] v_edits_here (a_edits_here.map enc) ∧ Post (l_is_tidy a_edits_here) (fun r => Ret K [] B H (enc r) Q) (fun _ => False)
abbrev s__law_is_tidy : Stmt := top 44
theorem sc__law_is_tidy : FnScope ["_law_edits_here", "_law_k", "_law_span", "_law_start", "_law_rate"] ["_law_edits_here"] (defScope s__law_is_tidy) := ⟨rfl, rfl, rfl, by decide +kernel, rfl, by decide +kernel, by decide +kernel⟩
/-! ### _law_met -/
def l_met (a_span : (Tp2 Int Int)) (a_start : (Option (Tp2 Int Int))) (a_rate : (Tp2 Int Int)) (a_mark : (Tp2 Int Int)) : Res (List (Tp2 Int Int)) :=
  ((if (isNonD (enc a_start)) = true then .ok true else (if (decide (a_rate.a = 0)) = true then .ok true else (someR a_start).bind fun x10 => (l_less a_mark x10).bind fun x13 => .ok x13)) : Res Bool).bind fun b19 => (if b19 = true then .ok ([] : List (Tp2 Int Int)) else (someR a_start).bind fun x28 => (l_minus a_mark x28).bind fun x31 => (l_times x31 (⟨a_rate.b, a_rate.a⟩ : (Tp2 Int Int))).bind fun x54 => (l_less x54 a_span).bind fun x65 => guardR (([x54] : List (Tp2 Int Int)).length * (Int.toNat (b2z x65)) ≤ 1000000 ∧ -(2 ^ 62) ≤ ((b2z x65) : Int) ∧ ((b2z x65) : Int) < 2 ^ 62) <| .ok (timesL ([x54] : List (Tp2 Int Int)) (b2z x65)))
def sp__law_met (K : PySem.W.Frag) : Sp := fun vs H Q _ => ∃ (B : Hp) (v_span : V) (a_span : (Tp2 Int Int)) (v_start : V) (a_start : (Option (Tp2 Int Int))) (v_rate : V) (a_rate : (Tp2 Int Int)) (v_mark : V) (a_mark : (Tp2 Int Int)), Ex B H ∧ vs = [v_span, v_start, v_rate, v_mark] ∧ Rep K B v_span (enc a_span) ∧ Rep K B v_start (enc a_start) ∧ Rep K B v_rate (enc a_rate) ∧ Rep K B v_mark (enc a_mark) ∧ Post (l_met a_span a_start a_rate a_mark) (fun r => Ret K [] B H (enc r) Q) (fun _ => False)
abbrev s__law_met : Stmt := top 45
theorem sc__law_met : FnScope ["_law_span", "_law_start", "_law_rate", "_law_mark", "_law_later"] ["_law_span", "_law_start", "_law_rate", "_law_mark"] (defScope s__law_met) := ⟨rfl, rfl, rfl, by decide +kernel, rfl, by decide +kernel, by decide +kernel⟩
/-! ### _law_moments -/
def l_moments (a_above : (List (Tp3 (Tp2 Int Int) (Option (Tp2 Int Int)) (Tp2 Int Int)))) (a_below : (List (Tp3 (Tp2 Int Int) (Option (Tp2 Int Int)) (Tp2 Int Int)))) (a_cells : (List Int)) : Res (List (Tp2 Int Int)) :=
  (forR (a_below) (([(⟨0, 1⟩ : (Tp2 Int Int))] : List (Tp2 Int Int)) : (List (Tp2 Int Int))) (fun x24 (a23 : (List (Tp2 Int Int))) => (ixR a23 (-1)).bind fun x47 => (l_plus x47 x24.a).bind fun x51 => guardR (a23.length < 1000000) <| .ok (.nx (a23 ++ [x51])))).bind (afterR fun a59 => (forR (a_above) ((([] : List (Tp2 Int Int)), (⟨0, 1⟩ : (Tp2 Int Int))) : (List (Tp2 Int Int)) × (Tp2 Int Int)) (fun x90 (a89 : (List (Tp2 Int Int)) × (Tp2 Int Int)) => (l_times x90.a (⟨1, 2⟩ : (Tp2 Int Int))).bind fun x122 => (l_plus a89.2 x122).bind fun x128 => guardR (a89.1.length + ([a89.2, x128] : List (Tp2 Int Int)).length ≤ 1000000) <| (forR (a59) ((a89.1 ++ ([a89.2, x128] : List (Tp2 Int Int))) : (List (Tp2 Int Int))) (fun x168 (a167 : (List (Tp2 Int Int))) => (l_met x90.a x90.b x90.c x168).bind fun x181 => (compR (x181) (() : Unit) (fun x194 (a198 : Unit) => (l_plus a89.2 x194).bind fun x214 => .ok (some x214, ()))).bind <| un2 fun acc197 a198 => guardR (a167.length + acc197.length ≤ 1000000) <| .ok (.nx (a167 ++ acc197)))).bind (afterR fun a248 => (l_plus a89.2 x90.a).bind fun x259 => .ok (.nx (a248, x259))))).bind (afterR fun a265 => (forR (a_cells) (a265.1 : (List (Tp2 Int Int))) (fun x292 (a291 : (List (Tp2 Int Int))) => (l_amount ([x292] : List Int)).bind fun x309 => (l_digit x309.2 40).bind fun x315 => (l_digit x315.2 7).bind fun x321 => (l_lowest x315.1 (1 + x321.1)).bind fun x327 => (l_plus x309.1 x327).bind fun x333 => guardR (a291.length < 1000000) <| .ok (.nx (a291 ++ [x333])))).bind (afterR fun a341 => (l_plus a265.2 (⟨1, 3⟩ : (Tp2 Int Int))).bind fun x352 => guardR (a341.length + ([a265.2, x352] : List (Tp2 Int Int)).length ≤ 1000000) <| .ok (a341 ++ ([a265.2, x352] : List (Tp2 Int Int))))))
def sp__law_moments (K : PySem.W.Frag) : Sp := fun vs H Q _ => ∃ (B : Hp) (v_above : V) (a_above : (List (Tp3 (Tp2 Int Int) (Option (Tp2 Int Int)) (Tp2 Int Int)))) (v_below : V) (a_below : (List (Tp3 (Tp2 Int Int) (Option (Tp2 Int Int)) (Tp2 Int Int)))) (v_cells : V) (a_cells : (List Int)), Ex B H ∧ vs = [v_above, v_below, v_cells] ∧ Rep K B v_above (enc a_above) ∧ Rep K B v_below (enc a_below) ∧ Rep K B v_cells (enc a_cells) ∧ Post (l_moments a_above a_below a_cells) (fun r => Ret K [] B H (enc r) Q) (fun _ => False)
abbrev s__law_moments : Stmt := top 46
theorem sc__law_moments : FnScope ["_law_above", "_law_below", "_law_cells", "_law_marks", "_law_span", "_law_start", "_law_rate", "_law_found", "_law_begin", "_law_mark", "_law_later", "_law_cell", "_law_state"] ["_law_above", "_law_below", "_law_cells"] (defScope s__law_moments) := ⟨rfl, rfl, rfl, by decide +kernel, rfl, by decide +kernel, by decide +kernel⟩
/-! ### _law_through -/
def l_through (a_above : (List (Tp3 (Tp2 Int Int) (Option (Tp2 Int Int)) (Tp2 Int Int)))) (a_below : (List (Tp3 (Tp2 Int Int) (Option (Tp2 Int Int)) (Tp2 Int Int)))) (a_t : (Tp2 Int Int)) : Res (Option (Tp2 Int Int)) :=
  (l_led a_above a_t).bind fun x1 => (if (isNonD (enc x1)) = true then .ok none else (someR x1).bind fun x7 => (l_led a_below x7).bind fun x10 => .ok x10)
def sp__law_through (K : PySem.W.Frag) : Sp := fun vs H Q _ => ∃ (B : Hp) (v_above : V) (a_above : (List (Tp3 (Tp2 Int Int) (Option (Tp2 Int Int)) (Tp2 Int Int)))) (v_below : V) (a_below : (List (Tp3 (Tp2 Int Int) (Option (Tp2 Int Int)) (Tp2 Int Int)))) (v_t : V) (a_t : (Tp2 Int Int)), Ex B H ∧ vs = [v_above, v_below, v_t] ∧ Rep K B v_above (enc a_above) ∧ Rep K B v_below (enc a_below) ∧ Rep K B v_t (enc a_t) ∧ Post (l_through a_above a_below a_t) (fun r => Ret K [] B H (enc r) Q) (fun _ => False)
abbrev s__law_through : Stmt := top 47
theorem sc__law_through : FnScope ["_law_above", "_law_below", "_law_t", "_law_x"] ["_law_above", "_law_below", "_law_t"] (defScope s__law_through) := ⟨rfl, rfl, rfl, by decide +kernel, rfl, by decide +kernel, by decide +kernel⟩
/-! ### law -/
def m_law (a_script : (List Int)) : Res Bool :=
  (l_cell_at a_script 0).bind fun x1 => (l_edits ([x1] : List Int) 5).bind fun x13 => (l_cell_at a_script 1).bind fun x19 => (l_edits ([x19] : List Int) 5).bind fun x31 => ((m_over x13.1 x31.1).noErr).bind fun x66 => guardR (okEq (enc ([x13.1, x31.1] : List (List (Tp3 (Tp2 Int Int) (Option (Tp2 Int Int)) (Tp2 Int Int))))) (enc ([x13.1, x31.1] : List (List (Tp3 (Tp2 Int Int) (Option (Tp2 Int Int)) (Tp2 Int Int)))))) <| (if (!(eqD (enc ([x13.1, x31.1] : List (List (Tp3 (Tp2 Int Int) (Option (Tp2 Int Int)) (Tp2 Int Int))))) (enc ([x13.1, x31.1] : List (List (Tp3 (Tp2 Int Int) (Option (Tp2 Int Int)) (Tp2 Int Int))))))) = true then .ok false else (l_is_tidy x66).bind fun x93 => (if x93 = true then (l_moments x13.1 x31.1 (cutL a_script (some 2) (some 12))).bind fun x108 => (forR (x108) (() : Unit) (fun x126 (a125 : Unit) => (l_led x66 x126).bind fun x133 => (l_through x13.1 x31.1 x126).bind fun x139 => guardR (okEq (enc x133) (enc x139)) <| (if (!(eqD (enc x133) (enc x139))) = true then .ok (.rt false) else .ok (.nx ())))).bind (afterR fun a145 => guardR (x66.length < 1000000) <| guardR (okEq (enc ([x13.1, x31.1] : List (List (Tp3 (Tp2 Int Int) (Option (Tp2 Int Int)) (Tp2 Int Int))))) (enc ([x13.1, x31.1] : List (List (Tp3 (Tp2 Int Int) (Option (Tp2 Int Int)) (Tp2 Int Int)))))) <| (if (!(eqD (enc ([x13.1, x31.1] : List (List (Tp3 (Tp2 Int Int) (Option (Tp2 Int Int)) (Tp2 Int Int))))) (enc ([x13.1, x31.1] : List (List (Tp3 (Tp2 Int Int) (Option (Tp2 Int Int)) (Tp2 Int Int))))))) = true then .ok false else guardR (x13.1.length < 1000000) <| ((m_over x13.1 x31.1).noErr).bind fun x216 => guardR (okEq (enc x216) (enc x66)) <| (if (eqD (enc x216) (enc x66)) = true then ((m_over x13.1 ([] : List (Tp3 (Tp2 Int Int) (Option (Tp2 Int Int)) (Tp2 Int Int)))).noErr).bind fun x241 => guardR (okEq (enc x241) (enc ([] : List D))) <| (if (eqD (enc x241) (enc ([] : List D))) = true then ((m_over ([] : List (Tp3 (Tp2 Int Int) (Option (Tp2 Int Int)) (Tp2 Int Int))) x31.1).noErr).bind fun x271 => guardR (okEq (enc x271) (enc ([] : List D))) <| .ok (eqD (enc x271) (enc ([] : List D))) else .ok false) else .ok false))) else .ok false))
def sp_law (K : PySem.W.Frag) : Sp := fun vs H Q _ => ∃ (B : Hp) (v_script : V) (a_script : (List Int)), Ex B H ∧ vs = [v_script] ∧ Bor K B H [] v_script (a_script.map enc) ∧ Post (m_law a_script) (fun r => Ret K [] B H (enc r) Q) (fun _ => False)
abbrev s_law : Stmt := top 48
theorem sc_law : FnScope ["_law_script", "_law_above", "_law_below", "_law_handed", "_law_found", "_law_t", "_law_kept"] ["_law_script"] (defScope s_law) := ⟨rfl, rfl, rfl, by decide +kernel, rfl, by decide +kernel, by decide +kernel⟩
section
variable {Pr : Program} {wo : World} {K : PySem.W.Frag} {mg : Str → Option Value} {base : Heap}
theorem ok_divisor {f : Addr} {fd : FuncData}  (F : Fun K "divisor" "divisor" s_divisor f fd) (bI_abs : mg "abs" = none) : FnOk Pr wo K mg base CX0 1 f fd ["one", "other"] (sp_divisor K) := by
  refine F.ok sc_divisor (fun vs H Q E h => ?_) (fun cdv A outer s H0 vs Q E hr h => ?_)
  · obtain ⟨_, _, _, _, rfl, _⟩ := h; rfl
  · obtain ⟨B0, a_one, a_other, w, rfl, P⟩ := h
    have w0 := w
    have hu := hu_of hr
    have hu64 := hu64_of hr
    refine ⟨_, (pss_cons (ps_set (i := 0) sc_divisor.nd rfl (by first | exact Or.inl rfl | exact Or.inr rfl) (pe_callB cr_abs (by rfl) bI_abs PyProof.Rows.boot_abs (pa_cons (pv 0) pa_nil)))
      (pss_cons (ps_set (i := 1) sc_divisor.nd rfl (by first | exact Or.inl rfl | exact Or.inr rfl) (pe_callB cr_abs (by rfl) bI_abs PyProof.Rows.boot_abs (pa_cons (pv 1) pa_nil)))
      (pss_cons (ps_while PassesOwn.never (pt_cmpR op_gt (pv 1) pe_int (nomark _)) (pss_one (ps_par rfl sc_divisor.nd (i := 0) (j := 1) rfl rfl (by decide) rfl rfl (pa_cons (pv 1) (pa_cons (pe_op op_mod (pv 0) (pv 1)) pa_nil)) rfl)))
      (pss_one (ps_ret (pv 0)))))), ?_⟩
    unfold m_divisor at P
    have st := Stp.refl (W := []) w
    refine h_set ?_
    refine h_cb ?_
    refine h_cons ?_
    refine h_var rfl ?_
    refine h_nil ?_
    refine h_abs ?_
    replace P := P.lt
    generalize hx : (absI a_one) = x1 at P ⊢
    refine h_set ?_
    refine h_cb ?_
    refine h_cons ?_
    refine h_var rfl ?_
    refine h_nil ?_
    refine h_abs ?_
    replace P := P.lt
    generalize hx : (absI a_other) = x2 at P ⊢
    refine h_seq ?_
    have wj4 := w
    have sj3 := Stp.refl (W := []) w
    refine h_while P (fun (a : Int × Int) σ' H' => ∃ (B' : Hp), Stp [] B0 H0 B' H' ∧ σ' = [some (.int a.1), some (.int a.2)]) ⟨_, sj3, rfl⟩ ?_ ?_
    · rintro N5 C6 T7 a12 _ H14 ⟨B13, s15, rfl⟩ kn8 kk9 kr10 kb11 P
      replace st := st.go s15 go0
      replace w := s15.ok
      have sj3 := s15
      refine h_test ?_
      refine h_op ?_
      refine h_var rfl ?_
      refine h_c ?_
      refine h_I0 ?_
      refine h_bl ?_
      refine h_ite (fun c1 => ?_) (fun c1 => ?_)
      · replace P := P.iteT c1
        refine ⟨N5, kn8, ?_⟩
        refine h_par ?_
        refine h_cons ?_
        refine h_var rfl ?_
        refine h_cons ?_
        refine h_op ?_
        refine h_var rfl ?_
        refine h_var rfl ?_
        obtain ⟨gd, P⟩ := P.guard
        refine h_I gd ?_
        refine h_nil ?_
        refine h_two ?_
        replace P := P.lt
        generalize hx : (a12.1 % a12.2) = x16 at P ⊢
        refine h_nx ?_
        exact kk9 (a12.2, x16) _ _ ⟨_, sj3, rfl⟩ P.ok
      · replace P := P.iteF c1
        exact kb11 (a12.1, a12.2) _ _ ⟨_, sj3, rfl⟩ P.ok
    · rintro a17 _ H19 ⟨B18, s20, rfl⟩ P
      replace st := st.go s20 go0
      replace w := s20.ok
      refine h_nx ?_
      refine h_ret ?_
      refine h_var rfl ?_
      exact P.ok _ _ _ st (Rep.int _)
theorem ok_is_number {f : Addr} {fd : FuncData}  (F : Fun K "is_number" "is_number" s_is_number f fd) (bI_isinstance : mg "isinstance" = none) (bI_int : mg "int" = none) (bI_bool : mg "bool" = none) : FnOk Pr wo K mg base CX0 1 f fd ["thing"] (sp_is_number K) := by
  refine F.ok sc_is_number (fun vs H Q E h => ?_) (fun cdv A outer s H0 vs Q E hr h => ?_)
  · obtain ⟨_, _, _, _, rfl, _⟩ := h; rfl
  · obtain ⟨B0, v_thing, a_thing, w, rfl, r_thing, P⟩ := h
    have w0 := w
    have hu := hu_of hr
    have hu64 := hu64_of hr
    refine ⟨_, (pss_one (ps_ret (pe_and (pe_callB (r := rIsi K) call_isi (by rfl) bI_isinstance PyProof.Rows.boot_isinstance (pa_cons (pv 0) (pa_cons (pe_bltn (v := .ty "int") (by rfl) bI_int Y.boot_int rfl) pa_nil))) (pe_one (pe_not (pe_callB (r := rIsi K) call_isi (by rfl) bI_isinstance PyProof.Rows.boot_isinstance (pa_cons (pv 0) (pa_cons (pe_bltn (v := .ty "bool") (by rfl) bI_bool Y.boot_bool rfl) pa_nil)))))))), ?_⟩
    unfold m_is_number at P
    have st := Stp.refl (W := []) w
    refine h_ret ?_
    refine h_and ?_
    refine h_cb ?_
    refine h_cons ?_
    refine h_var rfl ?_
    refine h_cons ?_
    refine h_c ?_
    refine h_nil ?_
    refine isi (t := "int") w (r_thing.mono st.ex) ?_
    refine h_bl ?_
    refine h_ite (fun c1 => ?_) (fun c1 => ?_)
    · replace P := P.iteT c1
      refine h_not ?_
      refine h_cb ?_
      refine h_cons ?_
      refine h_var rfl ?_
      refine h_cons ?_
      refine h_c ?_
      refine h_nil ?_
      refine isi (t := "bool") w (r_thing.mono st.ex) ?_
      refine h_bl ?_
      exact P.ok _ _ _ st (Rep.bl _)
    · replace P := P.iteF c1
      exact P.ok _ _ _ st (Rep.bl _)
theorem ok_fraction {f : Addr} {fd : FuncData} {tk_fraction_bottom : Tok} (F : FunV K "fraction" "fraction" s_fraction [.int 1 tk_fraction_bottom] f fd) {C_NoFraction : Addr} (T_NoFraction : ExcR K mg "NoFraction" C_NoFraction) {f_divisor : Addr} {d_divisor : FuncData} (g_divisor : mg "divisor" = some (.ref f_divisor)) (k_divisor : PySem.W.keepIn K (.ref f_divisor) = true) (b_divisor : L2.Binds K d_divisor ["one", "other"] []) (G_divisor : FnOk Pr wo K mg base CX0 1 f_divisor d_divisor ["one", "other"] (sp_divisor K)) {f_is_number : Addr} {d_is_number : FuncData} (g_is_number : mg "is_number" = some (.ref f_is_number)) (k_is_number : PySem.W.keepIn K (.ref f_is_number) = true) (b_is_number : L2.Binds K d_is_number ["thing"] []) (G_is_number : FnOk Pr wo K mg base CX0 1 f_is_number d_is_number ["thing"] (sp_is_number K)) : FnOk Pr wo K mg base (L2.CX Pr wo) 2 f fd ["top", "bottom"] (sp_fraction K mg) := by
  refine F.okX sc_fraction (fun vs H Q E h => ?_) (fun cdv A outer s H0 vs Q E hr h => ?_)
  · obtain ⟨_, _, _, _, _, _, rfl, _⟩ := h; rfl
  · obtain ⟨B0, v_top, a_top, v_bottom, a_bottom, w, rfl, r_top, r_bottom, P⟩ := h
    have w0 := w
    have hu := hu_of hr
    have hu64 := hu64_of hr
    have hr1 : Room 1 _ := hr.mono (by decide)
    refine ⟨_, (pss_cons (ps_if (PW.pt (pw_or (pt_not (pt_val (pe_call G_is_number hr1 rfl g_is_number k_is_number b_is_number .nil pass0 (pa_cons (pv 0) pa_nil)))) (pw_or (pt_not (pt_val (pe_call G_is_number hr1 rfl g_is_number k_is_number b_is_number .nil pass0 (pa_cons (pv 1) pa_nil)))) (pw_or1 (pt_cmpR (r := rEqD K) (op_eqD hu64) (pv 1) pe_int (nomark _)))))) (pss_one (ps_raise rfl (takes_of rfl rfl rfl rfl) (pmk_own PySem.F.excBase_ValueError T_NoFraction.ex T_NoFraction.g T_NoFraction.kp (raises_own T_NoFraction.ec.hs T_NoFraction.ty) rfl))) pss_nil)
      (pss_cons (ps_set (i := 2) sc_fraction.nd rfl (by first | exact Or.inl rfl | exact Or.inr rfl) (pe_call G_divisor hr1 rfl g_divisor k_divisor b_divisor .nil pass0 (pa_cons (pv 0) (pa_cons (pv 1) pa_nil))))
      (pss_cons (ps_if (pt_cmpR op_lt (pv 1) pe_int (nomark _)) (pss_one (ps_set (i := 2) sc_fraction.nd rfl (by first | exact Or.inl rfl | exact Or.inr rfl) (pe_un un_neg (pv 2)))) pss_nil)
      (pss_one (ps_ret (pe_tup (pa_cons (pe_op op_fdivZ (pv 0) (pv 2)) (pa_cons (pe_op op_fdivZ (pv 1) (pv 2)) pa_nil)))))))), ?_⟩
    unfold m_fraction at P
    have st := Stp.refl (W := []) w
    refine h_seq <| h_if ?_
    refine h_tor ?_
    refine h_tnot ?_
    refine h_tB ?_
    refine h_call ?_
    refine h_cons ?_
    refine h_var rfl ?_
    refine h_nil ?_
    refine ⟨B0, v_top, a_top, w, rfl, (r_top.mono st.ex), (P.bind.noErr).mono (fun x1 P => ?_) (fun _ z => z.elim)⟩
    refine fun v5 B2 H3 s4 r6 => ?_
    replace st := st.go s4 go0
    replace w := s4.ok
    cases r6
    refine h_bl ?_
    refine h_iteN (fun c1 => ?_) (fun c1 => ?_)
    · replace P := P.iteF c1
      refine h_iteT ?_
      exact P.err _ _ _ T_NoFraction.g st
    · replace P := P.iteT c1
      refine h_tor ?_
      refine h_tnot ?_
      refine h_tB ?_
      refine h_call ?_
      refine h_cons ?_
      refine h_var rfl ?_
      refine h_nil ?_
      refine ⟨B2, v_bottom, a_bottom, w, rfl, (r_bottom.mono st.ex), (P.bind.noErr).mono (fun x7 P => ?_) (fun _ z => z.elim)⟩
      refine fun v11 B8 H9 s10 r12 => ?_
      replace st := st.go s10 go0
      replace w := s10.ok
      cases r12
      refine h_bl ?_
      refine h_iteN (fun c1 => ?_) (fun c1 => ?_)
      · replace P := P.iteF c1
        refine h_iteT ?_
        exact P.err _ _ _ T_NoFraction.g st
      · replace P := P.iteT c1
        refine h_test ?_
        refine h_op ?_
        refine h_var rfl ?_
        refine h_c ?_
        obtain ⟨gd, P⟩ := P.guard
        refine h_eqD (d := a_bottom) (e := (enc (0 : Int))) w (r_bottom.mono st.ex) (Rep.int _) gd ?_
        refine h_bl ?_
        refine h_ite (fun c1 => ?_) (fun c1 => ?_)
        · replace P := P.iteT c1
          exact P.err _ _ _ T_NoFraction.g st
        · replace P := P.iteF c1
          refine h_next ?_
          refine h_nx ?_
          refine h_set ?_
          refine h_call ?_
          refine h_cons ?_
          refine h_var rfl ?_
          refine h_cons ?_
          refine h_var rfl ?_
          refine h_nil ?_
          obtain ⟨i13, hi14, P⟩ := P.asI
          have rc15 := (r_top.mono st.ex)
          rw [hi14] at rc15
          cases rc15
          obtain ⟨i16, hi17, P⟩ := P.asI
          have rc18 := (r_bottom.mono st.ex)
          rw [hi17] at rc18
          cases rc18
          refine ⟨B8, i13, i16, w, rfl, (P.bind.noErr).mono (fun x19 P => ?_) (fun _ z => z.elim)⟩
          refine fun v23 B20 H21 s22 r24 => ?_
          replace st := st.go s22 go0
          replace w := s22.ok
          cases r24
          have wj26 := w
          have sj25 := Stp.refl (W := []) w
          refine h_joinS P (fun (a : Int) σ' H' => ∃ (B' : Hp), Stp [] B20 H21 B' H' ∧ σ' = [some (.int i13), some (.int i16), some (.int a)]) (fun N kk27 P => h_if ?_) ?_
          · skip
            refine h_test ?_
            refine h_op ?_
            refine h_var rfl ?_
            refine h_c ?_
            refine h_I0 ?_
            refine h_bl ?_
            refine h_ite (fun c1 => ?_) (fun c1 => ?_)
            · replace P := P.iteT c1
              refine h_set1 ?_
              refine h_un ?_
              refine h_var rfl ?_
              refine h_U ?_
              replace P := P.lt
              generalize hx : (-x19) = x28 at P ⊢
              refine h_nx ?_
              exact kk27 x28 _ _ ⟨_, sj25, rfl⟩ P.ok
            · replace P := P.iteF c1
              refine h_next ?_
              refine h_nx ?_
              exact kk27 x19 _ _ ⟨_, sj25, rfl⟩ P.ok
          rintro a29 _ H31 ⟨B30, s32, rfl⟩ P
          replace st := st.go s32 go0
          replace w := s32.ok
          refine h_ret ?_
          refine h_tup ?_
          refine h_cons ?_
          refine h_op ?_
          refine h_var rfl ?_
          refine h_var rfl ?_
          obtain ⟨gd, P⟩ := P.guard
          refine h_I gd ?_
          refine h_cons ?_
          refine h_op ?_
          refine h_var rfl ?_
          refine h_var rfl ?_
          obtain ⟨gd, P⟩ := P.guard
          refine h_I gd ?_
          refine h_nil ?_
          refine h_newT w (K := K) (.cons (Rep.int _) (.cons (Rep.int _) .nil)) (fun p33 B34 H35 s36 r37 => ?_) (by show 2 ≤ sizeLine; decide)
          replace st := st.go s36 go0
          replace w := s36.ok
          replace r37 : Rep K B34 (.ref p33) (enc (⟨(Int.fdiv i13 a29), (Int.fdiv i16 a29)⟩ : (Tp2 Int Int))) := r37
          exact P.ok _ _ _ st r37
theorem ok_is_fraction {f : Addr} {fd : FuncData}  (F : Fun K "is_fraction" "is_fraction" s_is_fraction f fd) {f_divisor : Addr} {d_divisor : FuncData} (g_divisor : mg "divisor" = some (.ref f_divisor)) (k_divisor : PySem.W.keepIn K (.ref f_divisor) = true) (b_divisor : L2.Binds K d_divisor ["one", "other"] []) (G_divisor : FnOk Pr wo K mg base CX0 1 f_divisor d_divisor ["one", "other"] (sp_divisor K)) {f_is_number : Addr} {d_is_number : FuncData} (g_is_number : mg "is_number" = some (.ref f_is_number)) (k_is_number : PySem.W.keepIn K (.ref f_is_number) = true) (b_is_number : L2.Binds K d_is_number ["thing"] []) (G_is_number : FnOk Pr wo K mg base CX0 1 f_is_number d_is_number ["thing"] (sp_is_number K)) (bI_isinstance : mg "isinstance" = none) (bI_tuple : mg "tuple" = none) (bI_len : mg "len" = none) : FnOk Pr wo K mg base CX0 2 f fd ["thing"] (sp_is_fraction K) := by
  refine F.ok sc_is_fraction (fun vs H Q E h => ?_) (fun cdv A outer s H0 vs Q E hr h => ?_)
  · obtain ⟨_, _, _, _, rfl, _⟩ := h; rfl
  · obtain ⟨B0, v_thing, a_thing, w, rfl, r_thing, P⟩ := h
    have w0 := w
    have hu := hu_of hr
    have hu64 := hu64_of hr
    have hr1 : Room 1 _ := hr.mono (by decide)
    refine ⟨_, (pss_cons (ps_if (PW.pt (pw_or (pt_not (pt_val (pe_callB (r := rIsi K) call_isi (by rfl) bI_isinstance PyProof.Rows.boot_isinstance (pa_cons (pv 0) (pa_cons (pe_bltn (v := .ty "tuple") (by rfl) bI_tuple Y.boot_tuple rfl) pa_nil))))) (pw_or1 (pt_cmpR op_ne (pe_callB (r := rLenY K) cr_len (by rfl) bI_len PySem.boot_len (pa_cons (pv 0) pa_nil)) pe_int (nomark _))))) (pss_one (ps_ret pe_bl)) pss_nil)
      (pss_cons (ps_asg (pv 0) (pg_tupK (K := K) (n := 2) rfl rfl (pgs_cons (pg_name (i := 1) sc_is_fraction.nd rfl (by first | exact Or.inl rfl | exact Or.inr rfl)) (pgs_cons (pg_name (i := 2) sc_is_fraction.nd rfl (by first | exact Or.inl rfl | exact Or.inr rfl)) pgs_nil))))
      (pss_cons (ps_if (PW.pt (pw_or (pt_not (pt_val (pe_call G_is_number hr1 rfl g_is_number k_is_number b_is_number .nil pass0 (pa_cons (pv 1) pa_nil)))) (pw_or (pt_not (pt_val (pe_call G_is_number hr1 rfl g_is_number k_is_number b_is_number .nil pass0 (pa_cons (pv 2) pa_nil)))) (pw_or1 (pt_cmpR op_lt (pv 2) pe_int (nomark _)))))) (pss_one (ps_ret pe_bl)) pss_nil)
      (pss_one (ps_ret (pe_cmpR op_eq (pe_call G_divisor hr1 rfl g_divisor k_divisor b_divisor .nil pass0 (pa_cons (pv 1) (pa_cons (pv 2) pa_nil))) pe_int (nomark _))))))), ?_⟩
    unfold m_is_fraction at P
    have st := Stp.refl (W := []) w
    refine h_seq <| h_if ?_
    refine h_tor ?_
    refine h_tnot ?_
    refine h_tB ?_
    refine h_cb ?_
    refine h_cons ?_
    refine h_var rfl ?_
    refine h_cons ?_
    refine h_c ?_
    refine h_nil ?_
    refine isi (t := "tuple") w (r_thing.mono st.ex) ?_
    refine h_bl ?_
    refine h_iteN (fun c1 => ?_) (fun c1 => ?_)
    · replace P := P.iteF c1
      refine h_iteT ?_
      refine h_ret ?_
      refine h_c ?_
      exact P.ok _ _ _ st (Rep.bl _)
    · replace P := P.iteT c1
      refine h_test ?_
      refine h_op ?_
      refine h_cb ?_
      refine h_cons ?_
      refine h_var rfl ?_
      refine h_nil ?_
      obtain ⟨l1, hl2, P⟩ := P.asT
      have rc3 := (r_thing.mono st.ex)
      rw [hl2] at rc3
      obtain ⟨p4, xs5, rfl, hs6, hr7⟩ := Rep.st w rc3
      refine h_lenTl hs6 hr7 ?_
      refine h_c ?_
      refine h_neI ?_
      refine h_bl ?_
      refine h_ite (fun c1 => ?_) (fun c1 => ?_)
      · replace P := P.iteT c1
        refine h_ret ?_
        refine h_c ?_
        exact P.ok _ _ _ st (Rep.bl _)
      · replace P := P.iteF c1
        refine h_next ?_
        refine h_nx ?_
        refine h_seq ?_
        refine h_asg ?_
        refine h_var rfl ?_
        obtain ⟨l8, hl9, P⟩ := P.asT
        have rc10 := (r_thing.mono st.ex)
        rw [hl9] at rc10
        obtain ⟨p11, xs12, hv, hs13, hr14⟩ := Rep.st w rc10
        cases hv
        obtain ⟨gd, P⟩ := P.guard
        refine h_tupG hs13 (by rw [hr14.length, List.length_map]; exact gd) ?_
        obtain ⟨x16, hx17, P⟩ := P.ix
        obtain ⟨u18, huu18, r19⟩ := RepL.atE hr14 hx17
        obtain ⟨x20, hx21, P⟩ := P.ix
        obtain ⟨u22, huu22, r23⟩ := RepL.atE hr14 hx21
        obtain rfl : xs12 = [u18, u22] := tup2 (by rw [hr14.length, List.length_map]; exact gd) huu18 huu22
        refine h_gcons ?_
        refine h_gname ?_
        refine h_gcons ?_
        refine h_gname ?_
        refine h_gnil ?_
        refine h_nx ?_
        refine h_seq <| h_if ?_
        refine h_tor ?_
        refine h_tnot ?_
        refine h_tB ?_
        refine h_call ?_
        refine h_cons ?_
        refine h_var rfl ?_
        refine h_nil ?_
        refine ⟨B0, u18, x16, w, rfl, r19, (P.bind).mono (fun x24 P => ?_) (fun _ z => z)⟩
        refine fun v28 B25 H26 s27 r29 => ?_
        replace r19 := r19.mono s27.ex
        replace r23 := r23.mono s27.ex
        replace st := st.go s27 go0
        replace w := s27.ok
        cases r29
        refine h_bl ?_
        refine h_iteN (fun c1 => ?_) (fun c1 => ?_)
        · replace P := P.iteF c1
          refine h_iteT ?_
          refine h_ret ?_
          refine h_c ?_
          exact P.ok _ _ _ st (Rep.bl _)
        · replace P := P.iteT c1
          refine h_tor ?_
          refine h_tnot ?_
          refine h_tB ?_
          refine h_call ?_
          refine h_cons ?_
          refine h_var rfl ?_
          refine h_nil ?_
          refine ⟨B25, u22, x20, w, rfl, r23, (P.bind).mono (fun x30 P => ?_) (fun _ z => z)⟩
          refine fun v34 B31 H32 s33 r35 => ?_
          replace r19 := r19.mono s33.ex
          replace r23 := r23.mono s33.ex
          replace st := st.go s33 go0
          replace w := s33.ok
          cases r35
          refine h_bl ?_
          refine h_iteN (fun c1 => ?_) (fun c1 => ?_)
          · replace P := P.iteF c1
            refine h_iteT ?_
            refine h_ret ?_
            refine h_c ?_
            exact P.ok _ _ _ st (Rep.bl _)
          · replace P := P.iteT c1
            refine h_test ?_
            refine h_op ?_
            refine h_var rfl ?_
            refine h_c ?_
            obtain ⟨i36, hi37, P⟩ := P.asI
            have rc38 := r23
            rw [hi37] at rc38
            cases rc38
            refine h_I0 ?_
            refine h_bl ?_
            refine h_ite (fun c1 => ?_) (fun c1 => ?_)
            · replace P := P.iteT c1
              refine h_ret ?_
              refine h_c ?_
              exact P.ok _ _ _ st (Rep.bl _)
            · replace P := P.iteF c1
              refine h_next ?_
              refine h_nx ?_
              refine h_ret ?_
              refine h_op ?_
              refine h_call ?_
              refine h_cons ?_
              refine h_var rfl ?_
              refine h_cons ?_
              refine h_var rfl ?_
              refine h_nil ?_
              obtain ⟨i39, hi40, P⟩ := P.asI
              have rc41 := r19
              rw [hi40] at rc41
              cases rc41
              refine ⟨B31, i39, i36, w, rfl, (P.bind).mono (fun x42 P => ?_) (fun _ z => z)⟩
              refine fun v46 B43 H44 s45 r47 => ?_
              replace r19 := r19.mono s45.ex
              replace r23 := r23.mono s45.ex
              replace st := st.go s45 go0
              replace w := s45.ok
              cases r47
              refine h_c ?_
              refine h_eqI ?_
              exact P.ok _ _ _ st (Rep.bl _)
theorem ok_is_moment {f : Addr} {fd : FuncData}  (F : Fun K "is_moment" "is_moment" s_is_moment f fd) {f_is_fraction : Addr} {d_is_fraction : FuncData} (g_is_fraction : mg "is_fraction" = some (.ref f_is_fraction)) (k_is_fraction : PySem.W.keepIn K (.ref f_is_fraction) = true) (b_is_fraction : L2.Binds K d_is_fraction ["thing"] []) (G_is_fraction : FnOk Pr wo K mg base CX0 2 f_is_fraction d_is_fraction ["thing"] (sp_is_fraction K)) : FnOk Pr wo K mg base CX0 3 f fd ["thing"] (sp_is_moment K) := by
  refine F.ok sc_is_moment (fun vs H Q E h => ?_) (fun cdv A outer s H0 vs Q E hr h => ?_)
  · obtain ⟨_, _, _, _, rfl, _⟩ := h; rfl
  · obtain ⟨B0, v_thing, a_thing, w, rfl, r_thing, P⟩ := h
    have w0 := w
    have hu := hu_of hr
    have hu64 := hu64_of hr
    have hr2 : Room 2 _ := hr.mono (by decide)
    refine ⟨_, (pss_one (ps_ret (pe_and (pe_call G_is_fraction hr2 rfl g_is_fraction k_is_fraction b_is_fraction .nil pass0 (pa_cons (pv 0) pa_nil)) (pe_one (pe_cmpR op_ge (pe_ix (r := rIxT K) ix_tup (pv 0) pe_int (fun _ _ => rfl)) pe_int (nomark _)))))), ?_⟩
    unfold m_is_moment at P
    have st := Stp.refl (W := []) w
    refine h_ret ?_
    refine h_and ?_
    refine h_call ?_
    refine h_cons ?_
    refine h_var rfl ?_
    refine h_nil ?_
    refine ⟨B0, v_thing, a_thing, w, rfl, (r_thing.mono st.ex), (P.bind).mono (fun x1 P => ?_) (fun _ z => z)⟩
    refine fun v5 B2 H3 s4 r6 => ?_
    replace st := st.go s4 go0
    replace w := s4.ok
    cases r6
    refine h_bl ?_
    refine h_ite (fun c1 => ?_) (fun c1 => ?_)
    · replace P := P.iteT c1
      refine h_op ?_
      refine h_op ?_
      refine h_var rfl ?_
      refine h_c ?_
      obtain ⟨l7, hl8, P⟩ := P.asT
      have rc9 := (r_thing.mono st.ex)
      rw [hl8] at rc9
      obtain ⟨p10, xs11, rfl, hs12, hr13⟩ := Rep.st w rc9
      obtain ⟨x14, hx15, P⟩ := P.ix
      obtain ⟨u16, hu, r17⟩ := RepL.atE hr13 hx15
      refine h_ixT hs12 hu ?_
      refine h_c ?_
      obtain ⟨i18, hi19, P⟩ := P.asI
      have rc20 := r17
      rw [hi19] at rc20
      cases rc20
      refine h_I0 ?_
      exact P.ok _ _ _ st (Rep.bl _)
    · replace P := P.iteF c1
      exact P.ok _ _ _ st (Rep.bl _)
theorem ok_plus {f : Addr} {fd : FuncData}  (F : Fun K "plus" "plus" s_plus f fd) {f_fraction : Addr} {d_fraction : FuncData} (g_fraction : mg "fraction" = some (.ref f_fraction)) (k_fraction : PySem.W.keepIn K (.ref f_fraction) = true) (b_fraction : L2.Binds K d_fraction ["top", "bottom"] []) (G_fraction : FnOk Pr wo K mg base (L2.CX Pr wo) 2 f_fraction d_fraction ["top", "bottom"] (sp_fraction K mg)) : FnOk Pr wo K mg base (L2.CX Pr wo) 3 f fd ["one", "other"] (sp_plus K mg) := by
  refine F.okX sc_plus (fun vs H Q E h => ?_) (fun cdv A outer s H0 vs Q E hr h => ?_)
  · obtain ⟨_, _, _, _, _, _, rfl, _⟩ := h; rfl
  · obtain ⟨B0, v_one, a_one, v_other, a_other, w, rfl, r_one, r_other, P⟩ := h
    have w0 := w
    have hu := hu_of hr
    have hu64 := hu64_of hr
    have hr2 : Room 2 _ := hr.mono (by decide)
    refine ⟨_, (pss_one (ps_ret (pe_callS G_fraction hr2 rfl g_fraction k_fraction b_fraction (fun σ => passAt (takes_of rfl rfl rfl rfl) σ) (pa_cons (pe_op op_add (pe_op op_mulW (pe_ix (r := rIxT K) ix_tup (pv 0) pe_int (fun _ _ => rfl)) (pe_ix (r := rIxT K) ix_tup (pv 1) pe_int (fun _ _ => rfl))) (pe_op op_mulW (pe_ix (r := rIxT K) ix_tup (pv 1) pe_int (fun _ _ => rfl)) (pe_ix (r := rIxT K) ix_tup (pv 0) pe_int (fun _ _ => rfl)))) (pa_cons (pe_op op_mulW (pe_ix (r := rIxT K) ix_tup (pv 0) pe_int (fun _ _ => rfl)) (pe_ix (r := rIxT K) ix_tup (pv 1) pe_int (fun _ _ => rfl))) pa_nil))))), ?_⟩
    unfold m_plus at P
    have st := Stp.refl (W := []) w
    refine h_ret ?_
    refine h_callS ?_
    refine h_cons ?_
    refine h_op ?_
    refine h_op ?_
    refine h_op ?_
    refine h_var rfl ?_
    refine h_c ?_
    obtain ⟨p1, xs2, rfl, hs3, hr4⟩ := Rep.st w (r_one.mono st.ex)
    obtain ⟨u5, hu, r6⟩ := RepL.at hr4 (i := 0) rfl
    refine h_ixT hs3 hu ?_
    cases r6
    refine h_op ?_
    refine h_var rfl ?_
    refine h_c ?_
    obtain ⟨p7, xs8, rfl, hs9, hr10⟩ := Rep.st w (r_other.mono st.ex)
    obtain ⟨u11, hu, r12⟩ := RepL.at hr10 (i := 1) rfl
    refine h_ixT hs9 hu ?_
    cases r12
    obtain ⟨gd, P⟩ := P.guard
    refine h_I gd ?_
    refine h_op ?_
    refine h_op ?_
    refine h_var rfl ?_
    refine h_c ?_
    obtain ⟨p13, xs14, hv, hs15, hr16⟩ := Rep.st w (r_other.mono st.ex)
    cases hv
    obtain ⟨u17, hu, r18⟩ := RepL.at hr16 (i := 0) rfl
    refine h_ixT hs15 hu ?_
    cases r18
    refine h_op ?_
    refine h_var rfl ?_
    refine h_c ?_
    obtain ⟨p19, xs20, hv, hs21, hr22⟩ := Rep.st w (r_one.mono st.ex)
    cases hv
    obtain ⟨u23, hu, r24⟩ := RepL.at hr22 (i := 1) rfl
    refine h_ixT hs21 hu ?_
    cases r24
    obtain ⟨gd, P⟩ := P.guard
    refine h_I gd ?_
    refine h_I0 ?_
    refine h_cons ?_
    refine h_op ?_
    refine h_op ?_
    refine h_var rfl ?_
    refine h_c ?_
    obtain ⟨p25, xs26, hv, hs27, hr28⟩ := Rep.st w (r_one.mono st.ex)
    cases hv
    obtain ⟨u29, hu, r30⟩ := RepL.at hr28 (i := 1) rfl
    refine h_ixT hs27 hu ?_
    cases r30
    refine h_op ?_
    refine h_var rfl ?_
    refine h_c ?_
    obtain ⟨p31, xs32, hv, hs33, hr34⟩ := Rep.st w (r_other.mono st.ex)
    cases hv
    obtain ⟨u35, hu, r36⟩ := RepL.at hr34 (i := 1) rfl
    refine h_ixT hs33 hu ?_
    cases r36
    obtain ⟨gd, P⟩ := P.guard
    refine h_I gd ?_
    refine h_nil ?_
    refine ⟨B0, .int ((a_one.a * a_other.b) + (a_other.a * a_one.b)), (enc (((a_one.a * a_other.b) + (a_other.a * a_one.b)) : Int)), .int (a_one.b * a_other.b), (enc ((a_one.b * a_other.b) : Int)), w, rfl, (Rep.int _), (Rep.int _), Post.mono2 P.bind (fun e43 P => ?_) (fun x37 P => ?_)⟩
    · skip
      exact fun C B' H' g s => P C B' H' g (st.go s go0)
    refine fun v41 B38 H39 s40 r42 => ?_
    replace st := st.go s40 go0
    replace w := s40.ok
    exact P.ok _ _ _ st r42
theorem ok_minus {f : Addr} {fd : FuncData}  (F : Fun K "minus" "minus" s_minus f fd) {f_fraction : Addr} {d_fraction : FuncData} (g_fraction : mg "fraction" = some (.ref f_fraction)) (k_fraction : PySem.W.keepIn K (.ref f_fraction) = true) (b_fraction : L2.Binds K d_fraction ["top", "bottom"] []) (G_fraction : FnOk Pr wo K mg base (L2.CX Pr wo) 2 f_fraction d_fraction ["top", "bottom"] (sp_fraction K mg)) : FnOk Pr wo K mg base (L2.CX Pr wo) 3 f fd ["one", "other"] (sp_minus K mg) := by
  refine F.okX sc_minus (fun vs H Q E h => ?_) (fun cdv A outer s H0 vs Q E hr h => ?_)
  · obtain ⟨_, _, _, _, _, _, rfl, _⟩ := h; rfl
  · obtain ⟨B0, v_one, a_one, v_other, a_other, w, rfl, r_one, r_other, P⟩ := h
    have w0 := w
    have hu := hu_of hr
    have hu64 := hu64_of hr
    have hr2 : Room 2 _ := hr.mono (by decide)
    refine ⟨_, (pss_one (ps_ret (pe_callS G_fraction hr2 rfl g_fraction k_fraction b_fraction (fun σ => passAt (takes_of rfl rfl rfl rfl) σ) (pa_cons (pe_op op_sub (pe_op op_mulW (pe_ix (r := rIxT K) ix_tup (pv 0) pe_int (fun _ _ => rfl)) (pe_ix (r := rIxT K) ix_tup (pv 1) pe_int (fun _ _ => rfl))) (pe_op op_mulW (pe_ix (r := rIxT K) ix_tup (pv 1) pe_int (fun _ _ => rfl)) (pe_ix (r := rIxT K) ix_tup (pv 0) pe_int (fun _ _ => rfl)))) (pa_cons (pe_op op_mulW (pe_ix (r := rIxT K) ix_tup (pv 0) pe_int (fun _ _ => rfl)) (pe_ix (r := rIxT K) ix_tup (pv 1) pe_int (fun _ _ => rfl))) pa_nil))))), ?_⟩
    unfold m_minus at P
    have st := Stp.refl (W := []) w
    refine h_ret ?_
    refine h_callS ?_
    refine h_cons ?_
    refine h_op ?_
    refine h_op ?_
    refine h_op ?_
    refine h_var rfl ?_
    refine h_c ?_
    obtain ⟨p1, xs2, rfl, hs3, hr4⟩ := Rep.st w (r_one.mono st.ex)
    obtain ⟨u5, hu, r6⟩ := RepL.at hr4 (i := 0) rfl
    refine h_ixT hs3 hu ?_
    cases r6
    refine h_op ?_
    refine h_var rfl ?_
    refine h_c ?_
    obtain ⟨p7, xs8, rfl, hs9, hr10⟩ := Rep.st w (r_other.mono st.ex)
    obtain ⟨u11, hu, r12⟩ := RepL.at hr10 (i := 1) rfl
    refine h_ixT hs9 hu ?_
    cases r12
    obtain ⟨gd, P⟩ := P.guard
    refine h_I gd ?_
    refine h_op ?_
    refine h_op ?_
    refine h_var rfl ?_
    refine h_c ?_
    obtain ⟨p13, xs14, hv, hs15, hr16⟩ := Rep.st w (r_other.mono st.ex)
    cases hv
    obtain ⟨u17, hu, r18⟩ := RepL.at hr16 (i := 0) rfl
    refine h_ixT hs15 hu ?_
    cases r18
    refine h_op ?_
    refine h_var rfl ?_
    refine h_c ?_
    obtain ⟨p19, xs20, hv, hs21, hr22⟩ := Rep.st w (r_one.mono st.ex)
    cases hv
    obtain ⟨u23, hu, r24⟩ := RepL.at hr22 (i := 1) rfl
    refine h_ixT hs21 hu ?_
    cases r24
    obtain ⟨gd, P⟩ := P.guard
    refine h_I gd ?_
    refine h_I0 ?_
    refine h_cons ?_
    refine h_op ?_
    refine h_op ?_
    refine h_var rfl ?_
    refine h_c ?_
    obtain ⟨p25, xs26, hv, hs27, hr28⟩ := Rep.st w (r_one.mono st.ex)
    cases hv
    obtain ⟨u29, hu, r30⟩ := RepL.at hr28 (i := 1) rfl
    refine h_ixT hs27 hu ?_
    cases r30
    refine h_op ?_
    refine h_var rfl ?_
    refine h_c ?_
    obtain ⟨p31, xs32, hv, hs33, hr34⟩ := Rep.st w (r_other.mono st.ex)
    cases hv
    obtain ⟨u35, hu, r36⟩ := RepL.at hr34 (i := 1) rfl
    refine h_ixT hs33 hu ?_
    cases r36
    obtain ⟨gd, P⟩ := P.guard
    refine h_I gd ?_
    refine h_nil ?_
    refine ⟨B0, .int ((a_one.a * a_other.b) - (a_other.a * a_one.b)), (enc (((a_one.a * a_other.b) - (a_other.a * a_one.b)) : Int)), .int (a_one.b * a_other.b), (enc ((a_one.b * a_other.b) : Int)), w, rfl, (Rep.int _), (Rep.int _), Post.mono2 P.bind (fun e43 P => ?_) (fun x37 P => ?_)⟩
    · skip
      exact fun C B' H' g s => P C B' H' g (st.go s go0)
    refine fun v41 B38 H39 s40 r42 => ?_
    replace st := st.go s40 go0
    replace w := s40.ok
    exact P.ok _ _ _ st r42
theorem ok_times {f : Addr} {fd : FuncData}  (F : Fun K "times" "times" s_times f fd) {f_fraction : Addr} {d_fraction : FuncData} (g_fraction : mg "fraction" = some (.ref f_fraction)) (k_fraction : PySem.W.keepIn K (.ref f_fraction) = true) (b_fraction : L2.Binds K d_fraction ["top", "bottom"] []) (G_fraction : FnOk Pr wo K mg base (L2.CX Pr wo) 2 f_fraction d_fraction ["top", "bottom"] (sp_fraction K mg)) : FnOk Pr wo K mg base (L2.CX Pr wo) 3 f fd ["one", "other"] (sp_times K mg) := by
  refine F.okX sc_times (fun vs H Q E h => ?_) (fun cdv A outer s H0 vs Q E hr h => ?_)
  · obtain ⟨_, _, _, _, _, _, rfl, _⟩ := h; rfl
  · obtain ⟨B0, v_one, a_one, v_other, a_other, w, rfl, r_one, r_other, P⟩ := h
    have w0 := w
    have hu := hu_of hr
    have hu64 := hu64_of hr
    have hr2 : Room 2 _ := hr.mono (by decide)
    refine ⟨_, (pss_one (ps_ret (pe_callS G_fraction hr2 rfl g_fraction k_fraction b_fraction (fun σ => passAt (takes_of rfl rfl rfl rfl) σ) (pa_cons (pe_op op_mulW (pe_ix (r := rIxT K) ix_tup (pv 0) pe_int (fun _ _ => rfl)) (pe_ix (r := rIxT K) ix_tup (pv 1) pe_int (fun _ _ => rfl))) (pa_cons (pe_op op_mulW (pe_ix (r := rIxT K) ix_tup (pv 0) pe_int (fun _ _ => rfl)) (pe_ix (r := rIxT K) ix_tup (pv 1) pe_int (fun _ _ => rfl))) pa_nil))))), ?_⟩
    unfold m_times at P
    have st := Stp.refl (W := []) w
    refine h_ret ?_
    refine h_callS ?_
    refine h_cons ?_
    refine h_op ?_
    refine h_op ?_
    refine h_var rfl ?_
    refine h_c ?_
    obtain ⟨p1, xs2, rfl, hs3, hr4⟩ := Rep.st w (r_one.mono st.ex)
    obtain ⟨u5, hu, r6⟩ := RepL.at hr4 (i := 0) rfl
    refine h_ixT hs3 hu ?_
    cases r6
    refine h_op ?_
    refine h_var rfl ?_
    refine h_c ?_
    obtain ⟨p7, xs8, rfl, hs9, hr10⟩ := Rep.st w (r_other.mono st.ex)
    obtain ⟨u11, hu, r12⟩ := RepL.at hr10 (i := 0) rfl
    refine h_ixT hs9 hu ?_
    cases r12
    obtain ⟨gd, P⟩ := P.guard
    refine h_I gd ?_
    refine h_cons ?_
    refine h_op ?_
    refine h_op ?_
    refine h_var rfl ?_
    refine h_c ?_
    obtain ⟨p13, xs14, hv, hs15, hr16⟩ := Rep.st w (r_one.mono st.ex)
    cases hv
    obtain ⟨u17, hu, r18⟩ := RepL.at hr16 (i := 1) rfl
    refine h_ixT hs15 hu ?_
    cases r18
    refine h_op ?_
    refine h_var rfl ?_
    refine h_c ?_
    obtain ⟨p19, xs20, hv, hs21, hr22⟩ := Rep.st w (r_other.mono st.ex)
    cases hv
    obtain ⟨u23, hu, r24⟩ := RepL.at hr22 (i := 1) rfl
    refine h_ixT hs21 hu ?_
    cases r24
    obtain ⟨gd, P⟩ := P.guard
    refine h_I gd ?_
    refine h_nil ?_
    refine ⟨B0, .int (a_one.a * a_other.a), (enc ((a_one.a * a_other.a) : Int)), .int (a_one.b * a_other.b), (enc ((a_one.b * a_other.b) : Int)), w, rfl, (Rep.int _), (Rep.int _), Post.mono2 P.bind (fun e31 P => ?_) (fun x25 P => ?_)⟩
    · skip
      exact fun C B' H' g s => P C B' H' g (st.go s go0)
    refine fun v29 B26 H27 s28 r30 => ?_
    replace st := st.go s28 go0
    replace w := s28.ok
    exact P.ok _ _ _ st r30
theorem ok_shared {f : Addr} {fd : FuncData}  (F : Fun K "shared" "shared" s_shared f fd) {C_NoFraction : Addr} (T_NoFraction : ExcR K mg "NoFraction" C_NoFraction) {f_fraction : Addr} {d_fraction : FuncData} (g_fraction : mg "fraction" = some (.ref f_fraction)) (k_fraction : PySem.W.keepIn K (.ref f_fraction) = true) (b_fraction : L2.Binds K d_fraction ["top", "bottom"] []) (G_fraction : FnOk Pr wo K mg base (L2.CX Pr wo) 2 f_fraction d_fraction ["top", "bottom"] (sp_fraction K mg)) : FnOk Pr wo K mg base (L2.CX Pr wo) 3 f fd ["one", "other"] (sp_shared K mg) := by
  refine F.okX sc_shared (fun vs H Q E h => ?_) (fun cdv A outer s H0 vs Q E hr h => ?_)
  · obtain ⟨_, _, _, _, _, _, rfl, _⟩ := h; rfl
  · obtain ⟨B0, v_one, a_one, v_other, a_other, w, rfl, r_one, r_other, P⟩ := h
    have w0 := w
    have hu := hu_of hr
    have hu64 := hu64_of hr
    have hr2 : Room 2 _ := hr.mono (by decide)
    refine ⟨_, (pss_cons (ps_if (pt_cmpR op_eq (pe_ix (r := rIxT K) ix_tup (pv 1) pe_int (fun _ _ => rfl)) pe_int (nomark _)) (pss_one (ps_raise rfl (takes_of rfl rfl rfl rfl) (pmk_own PySem.F.excBase_ValueError T_NoFraction.ex T_NoFraction.g T_NoFraction.kp (raises_own T_NoFraction.ec.hs T_NoFraction.ty) rfl))) pss_nil)
      (pss_one (ps_ret (pe_callS G_fraction hr2 rfl g_fraction k_fraction b_fraction (fun σ => passAt (takes_of rfl rfl rfl rfl) σ) (pa_cons (pe_op op_mulW (pe_ix (r := rIxT K) ix_tup (pv 0) pe_int (fun _ _ => rfl)) (pe_ix (r := rIxT K) ix_tup (pv 1) pe_int (fun _ _ => rfl))) (pa_cons (pe_op op_mulW (pe_ix (r := rIxT K) ix_tup (pv 0) pe_int (fun _ _ => rfl)) (pe_ix (r := rIxT K) ix_tup (pv 1) pe_int (fun _ _ => rfl))) pa_nil)))))), ?_⟩
    unfold m_shared at P
    have st := Stp.refl (W := []) w
    refine h_seq <| h_if ?_
    refine h_test ?_
    refine h_op ?_
    refine h_op ?_
    refine h_var rfl ?_
    refine h_c ?_
    obtain ⟨p1, xs2, rfl, hs3, hr4⟩ := Rep.st w (r_other.mono st.ex)
    obtain ⟨u5, hu, r6⟩ := RepL.at hr4 (i := 0) rfl
    refine h_ixT hs3 hu ?_
    cases r6
    refine h_c ?_
    refine h_eqI ?_
    refine h_bl ?_
    refine h_ite (fun c1 => ?_) (fun c1 => ?_)
    · replace P := P.iteT c1
      exact P.err _ _ _ T_NoFraction.g st
    · replace P := P.iteF c1
      refine h_next ?_
      refine h_nx ?_
      refine h_ret ?_
      refine h_callS ?_
      refine h_cons ?_
      refine h_op ?_
      refine h_op ?_
      refine h_var rfl ?_
      refine h_c ?_
      obtain ⟨p7, xs8, rfl, hs9, hr10⟩ := Rep.st w (r_one.mono st.ex)
      obtain ⟨u11, hu, r12⟩ := RepL.at hr10 (i := 0) rfl
      refine h_ixT hs9 hu ?_
      cases r12
      refine h_op ?_
      refine h_var rfl ?_
      refine h_c ?_
      obtain ⟨p13, xs14, hv, hs15, hr16⟩ := Rep.st w (r_other.mono st.ex)
      cases hv
      obtain ⟨u17, hu, r18⟩ := RepL.at hr16 (i := 1) rfl
      refine h_ixT hs15 hu ?_
      cases r18
      obtain ⟨gd, P⟩ := P.guard
      refine h_I gd ?_
      refine h_cons ?_
      refine h_op ?_
      refine h_op ?_
      refine h_var rfl ?_
      refine h_c ?_
      obtain ⟨p19, xs20, hv, hs21, hr22⟩ := Rep.st w (r_one.mono st.ex)
      cases hv
      obtain ⟨u23, hu, r24⟩ := RepL.at hr22 (i := 1) rfl
      refine h_ixT hs21 hu ?_
      cases r24
      refine h_op ?_
      refine h_var rfl ?_
      refine h_c ?_
      obtain ⟨p25, xs26, hv, hs27, hr28⟩ := Rep.st w (r_other.mono st.ex)
      cases hv
      obtain ⟨u29, hu, r30⟩ := RepL.at hr28 (i := 0) rfl
      refine h_ixT hs27 hu ?_
      cases r30
      obtain ⟨gd, P⟩ := P.guard
      refine h_I gd ?_
      refine h_nil ?_
      refine ⟨B0, .int (a_one.a * a_other.b), (enc ((a_one.a * a_other.b) : Int)), .int (a_one.b * a_other.a), (enc ((a_one.b * a_other.a) : Int)), w, rfl, (Rep.int _), (Rep.int _), Post.mono2 P.bind (fun e37 P => ?_) (fun x31 P => ?_)⟩
      · skip
        exact fun C B' H' g s => P C B' H' g (st.go s go0)
      refine fun v35 B32 H33 s34 r36 => ?_
      replace st := st.go s34 go0
      replace w := s34.ok
      exact P.ok _ _ _ st r36
theorem ok_less {f : Addr} {fd : FuncData}  (F : Fun K "less" "less" s_less f fd)  : FnOk Pr wo K mg base CX0 1 f fd ["one", "other"] (sp_less K) := by
  refine F.ok sc_less (fun vs H Q E h => ?_) (fun cdv A outer s H0 vs Q E hr h => ?_)
  · obtain ⟨_, _, _, _, _, _, rfl, _⟩ := h; rfl
  · obtain ⟨B0, v_one, a_one, v_other, a_other, w, rfl, r_one, r_other, P⟩ := h
    have w0 := w
    have hu := hu_of hr
    have hu64 := hu64_of hr
    refine ⟨_, (pss_one (ps_ret (pe_cmpR op_lt (pe_op op_mulW (pe_ix (r := rIxT K) ix_tup (pv 0) pe_int (fun _ _ => rfl)) (pe_ix (r := rIxT K) ix_tup (pv 1) pe_int (fun _ _ => rfl))) (pe_op op_mulW (pe_ix (r := rIxT K) ix_tup (pv 1) pe_int (fun _ _ => rfl)) (pe_ix (r := rIxT K) ix_tup (pv 0) pe_int (fun _ _ => rfl))) (nomark _)))), ?_⟩
    unfold m_less at P
    have st := Stp.refl (W := []) w
    refine h_ret ?_
    refine h_op ?_
    refine h_op ?_
    refine h_op ?_
    refine h_var rfl ?_
    refine h_c ?_
    obtain ⟨p1, xs2, rfl, hs3, hr4⟩ := Rep.st w (r_one.mono st.ex)
    obtain ⟨u5, hu, r6⟩ := RepL.at hr4 (i := 0) rfl
    refine h_ixT hs3 hu ?_
    cases r6
    refine h_op ?_
    refine h_var rfl ?_
    refine h_c ?_
    obtain ⟨p7, xs8, rfl, hs9, hr10⟩ := Rep.st w (r_other.mono st.ex)
    obtain ⟨u11, hu, r12⟩ := RepL.at hr10 (i := 1) rfl
    refine h_ixT hs9 hu ?_
    cases r12
    obtain ⟨gd, P⟩ := P.guard
    refine h_I gd ?_
    refine h_op ?_
    refine h_op ?_
    refine h_var rfl ?_
    refine h_c ?_
    obtain ⟨p13, xs14, hv, hs15, hr16⟩ := Rep.st w (r_other.mono st.ex)
    cases hv
    obtain ⟨u17, hu, r18⟩ := RepL.at hr16 (i := 0) rfl
    refine h_ixT hs15 hu ?_
    cases r18
    refine h_op ?_
    refine h_var rfl ?_
    refine h_c ?_
    obtain ⟨p19, xs20, hv, hs21, hr22⟩ := Rep.st w (r_one.mono st.ex)
    cases hv
    obtain ⟨u23, hu, r24⟩ := RepL.at hr22 (i := 1) rfl
    refine h_ixT hs21 hu ?_
    cases r24
    obtain ⟨gd, P⟩ := P.guard
    refine h_I gd ?_
    refine h_I0 ?_
    exact P.ok _ _ _ st (Rep.bl _)
theorem ok_sooner_of {f : Addr} {fd : FuncData}  (F : Fun K "sooner_of" "sooner_of" s_sooner_of f fd) {f_less : Addr} {d_less : FuncData} (g_less : mg "less" = some (.ref f_less)) (k_less : PySem.W.keepIn K (.ref f_less) = true) (b_less : L2.Binds K d_less ["one", "other"] []) (G_less : FnOk Pr wo K mg base CX0 1 f_less d_less ["one", "other"] (sp_less K)) : FnOk Pr wo K mg base CX0 2 f fd ["one", "other"] (sp_sooner_of K) := by
  refine F.ok sc_sooner_of (fun vs H Q E h => ?_) (fun cdv A outer s H0 vs Q E hr h => ?_)
  · obtain ⟨_, _, _, _, _, _, rfl, _⟩ := h; rfl
  · obtain ⟨B0, v_one, a_one, v_other, a_other, w, rfl, r_one, r_other, P⟩ := h
    have w0 := w
    have hu := hu_of hr
    have hu64 := hu64_of hr
    have hr1 : Room 1 _ := hr.mono (by decide)
    refine ⟨_, (pss_cons (ps_if (pt_val (pe_call G_less hr1 rfl g_less k_less b_less .nil pass0 (pa_cons (pv 1) (pa_cons (pv 0) pa_nil)))) (pss_one (ps_ret (pv 1))) pss_nil)
      (pss_one (ps_ret (pv 0)))), ?_⟩
    unfold m_sooner_of at P
    have st := Stp.refl (W := []) w
    refine h_seq <| h_if ?_
    refine h_tB ?_
    refine h_call ?_
    refine h_cons ?_
    refine h_var rfl ?_
    refine h_cons ?_
    refine h_var rfl ?_
    refine h_nil ?_
    refine ⟨B0, v_other, a_other, v_one, a_one, w, rfl, (r_other.mono st.ex), (r_one.mono st.ex), (P.bind).mono (fun x1 P => ?_) (fun _ z => z)⟩
    refine fun v5 B2 H3 s4 r6 => ?_
    replace st := st.go s4 go0
    replace w := s4.ok
    cases r6
    refine h_bl ?_
    refine h_ite (fun c1 => ?_) (fun c1 => ?_)
    · replace P := P.iteT c1
      refine h_ret ?_
      refine h_var rfl ?_
      exact P.ok _ _ _ st (r_other.mono st.ex)
    · replace P := P.iteF c1
      refine h_next ?_
      refine h_nx ?_
      refine h_ret ?_
      refine h_var rfl ?_
      exact P.ok _ _ _ st (r_one.mono st.ex)
theorem ok_later_of {f : Addr} {fd : FuncData}  (F : Fun K "later_of" "later_of" s_later_of f fd) {f_less : Addr} {d_less : FuncData} (g_less : mg "less" = some (.ref f_less)) (k_less : PySem.W.keepIn K (.ref f_less) = true) (b_less : L2.Binds K d_less ["one", "other"] []) (G_less : FnOk Pr wo K mg base CX0 1 f_less d_less ["one", "other"] (sp_less K)) : FnOk Pr wo K mg base CX0 2 f fd ["one", "other"] (sp_later_of K) := by
  refine F.ok sc_later_of (fun vs H Q E h => ?_) (fun cdv A outer s H0 vs Q E hr h => ?_)
  · obtain ⟨_, _, _, _, _, _, rfl, _⟩ := h; rfl
  · obtain ⟨B0, v_one, a_one, v_other, a_other, w, rfl, r_one, r_other, P⟩ := h
    have w0 := w
    have hu := hu_of hr
    have hu64 := hu64_of hr
    have hr1 : Room 1 _ := hr.mono (by decide)
    refine ⟨_, (pss_cons (ps_if (pt_val (pe_call G_less hr1 rfl g_less k_less b_less .nil pass0 (pa_cons (pv 0) (pa_cons (pv 1) pa_nil)))) (pss_one (ps_ret (pv 1))) pss_nil)
      (pss_one (ps_ret (pv 0)))), ?_⟩
    unfold m_later_of at P
    have st := Stp.refl (W := []) w
    refine h_seq <| h_if ?_
    refine h_tB ?_
    refine h_call ?_
    refine h_cons ?_
    refine h_var rfl ?_
    refine h_cons ?_
    refine h_var rfl ?_
    refine h_nil ?_
    refine ⟨B0, v_one, a_one, v_other, a_other, w, rfl, (r_one.mono st.ex), (r_other.mono st.ex), (P.bind).mono (fun x1 P => ?_) (fun _ z => z)⟩
    refine fun v5 B2 H3 s4 r6 => ?_
    replace st := st.go s4 go0
    replace w := s4.ok
    cases r6
    refine h_bl ?_
    refine h_ite (fun c1 => ?_) (fun c1 => ?_)
    · replace P := P.iteT c1
      refine h_ret ?_
      refine h_var rfl ?_
      exact P.ok _ _ _ st (r_other.mono st.ex)
    · replace P := P.iteF c1
      refine h_next ?_
      refine h_nx ?_
      refine h_ret ?_
      refine h_var rfl ?_
      exact P.ok _ _ _ st (r_one.mono st.ex)
theorem ok_is_edit {f : Addr} {fd : FuncData}  (F : Fun K "is_edit" "is_edit" s_is_edit f fd) {C_NOUGHT : Addr} (c_NOUGHT : CT K mg "NOUGHT" C_NOUGHT (⟨0, 1⟩ : (Tp2 Int Int))) {f_is_moment : Addr} {d_is_moment : FuncData} (g_is_moment : mg "is_moment" = some (.ref f_is_moment)) (k_is_moment : PySem.W.keepIn K (.ref f_is_moment) = true) (b_is_moment : L2.Binds K d_is_moment ["thing"] []) (G_is_moment : FnOk Pr wo K mg base CX0 3 f_is_moment d_is_moment ["thing"] (sp_is_moment K)) {f_is_fraction : Addr} {d_is_fraction : FuncData} (g_is_fraction : mg "is_fraction" = some (.ref f_is_fraction)) (k_is_fraction : PySem.W.keepIn K (.ref f_is_fraction) = true) (b_is_fraction : L2.Binds K d_is_fraction ["thing"] []) (G_is_fraction : FnOk Pr wo K mg base CX0 2 f_is_fraction d_is_fraction ["thing"] (sp_is_fraction K)) {f_less : Addr} {d_less : FuncData} (g_less : mg "less" = some (.ref f_less)) (k_less : PySem.W.keepIn K (.ref f_less) = true) (b_less : L2.Binds K d_less ["one", "other"] []) (G_less : FnOk Pr wo K mg base CX0 1 f_less d_less ["one", "other"] (sp_less K)) (bI_isinstance : mg "isinstance" = none) (bI_tuple : mg "tuple" = none) (bI_len : mg "len" = none) : FnOk Pr wo K mg base CX0 4 f fd ["thing"] (sp_is_edit K) := by
  refine F.ok sc_is_edit (fun vs H Q E h => ?_) (fun cdv A outer s H0 vs Q E hr h => ?_)
  · obtain ⟨_, _, _, _, rfl, _⟩ := h; rfl
  · obtain ⟨B0, v_thing, a_thing, w, rfl, r_thing, P⟩ := h
    have w0 := w
    have hu := hu_of hr
    have hu64 := hu64_of hr
    have hr1 : Room 1 _ := hr.mono (by decide)
    have hr2 : Room 2 _ := hr.mono (by decide)
    have hr3 : Room 3 _ := hr.mono (by decide)
    refine ⟨_, (pss_cons (ps_if (PW.pt (pw_or (pt_not (pt_val (pe_callB (r := rIsi K) call_isi (by rfl) bI_isinstance PyProof.Rows.boot_isinstance (pa_cons (pv 0) (pa_cons (pe_bltn (v := .ty "tuple") (by rfl) bI_tuple Y.boot_tuple rfl) pa_nil))))) (pw_or1 (pt_cmpR op_ne (pe_callB (r := rLenY K) cr_len (by rfl) bI_len PySem.boot_len (pa_cons (pv 0) pa_nil)) pe_int (nomark _))))) (pss_one (ps_ret pe_bl)) pss_nil)
      (pss_cons (ps_asg (pv 0) (pg_tupK (K := K) (n := 3) rfl rfl (pgs_cons (pg_name (i := 1) sc_is_edit.nd rfl (by first | exact Or.inl rfl | exact Or.inr rfl)) (pgs_cons (pg_name (i := 2) sc_is_edit.nd rfl (by first | exact Or.inl rfl | exact Or.inr rfl)) (pgs_cons (pg_name (i := 3) sc_is_edit.nd rfl (by first | exact Or.inl rfl | exact Or.inr rfl)) pgs_nil)))))
      (pss_cons (ps_if (PW.pt (pw_or (pt_not (pt_val (pe_call G_is_fraction hr2 rfl g_is_fraction k_is_fraction b_is_fraction .nil pass0 (pa_cons (pv 1) pa_nil)))) (pw_or (pt_not (pt_val (pe_call G_less hr1 rfl g_less k_less b_less .nil pass0 (pa_cons (pe_glob (v := .ref C_NOUGHT) (by rfl) c_NOUGHT.g rfl) (pa_cons (pv 1) pa_nil))))) (pw_or1 (pt_not (pt_val (pe_call G_is_moment hr3 rfl g_is_moment k_is_moment b_is_moment .nil pass0 (pa_cons (pv 3) pa_nil)))))))) (pss_one (ps_ret pe_bl)) pss_nil)
      (pss_cons (ps_if (pt_cmpR op_isNn (pv 2) pe_non (nomark _)) (pss_one (ps_ret (pe_cmpR (r := rEqD K) (op_eqD hu64) (pv 3) (pe_glob (v := .ref C_NOUGHT) (by rfl) c_NOUGHT.g rfl) (nomark _)))) pss_nil)
      (pss_one (ps_ret (pe_call G_is_moment hr3 rfl g_is_moment k_is_moment b_is_moment .nil pass0 (pa_cons (pv 2) pa_nil)))))))), ?_⟩
    unfold m_is_edit at P
    have st := Stp.refl (W := []) w
    refine h_seq <| h_if ?_
    refine h_tor ?_
    refine h_tnot ?_
    refine h_tB ?_
    refine h_cb ?_
    refine h_cons ?_
    refine h_var rfl ?_
    refine h_cons ?_
    refine h_c ?_
    refine h_nil ?_
    refine isi (t := "tuple") w (r_thing.mono st.ex) ?_
    refine h_bl ?_
    refine h_iteN (fun c1 => ?_) (fun c1 => ?_)
    · replace P := P.iteF c1
      refine h_iteT ?_
      refine h_ret ?_
      refine h_c ?_
      exact P.ok _ _ _ st (Rep.bl _)
    · replace P := P.iteT c1
      refine h_test ?_
      refine h_op ?_
      refine h_cb ?_
      refine h_cons ?_
      refine h_var rfl ?_
      refine h_nil ?_
      obtain ⟨l1, hl2, P⟩ := P.asT
      have rc3 := (r_thing.mono st.ex)
      rw [hl2] at rc3
      obtain ⟨p4, xs5, rfl, hs6, hr7⟩ := Rep.st w rc3
      refine h_lenTl hs6 hr7 ?_
      refine h_c ?_
      refine h_neI ?_
      refine h_bl ?_
      refine h_ite (fun c1 => ?_) (fun c1 => ?_)
      · replace P := P.iteT c1
        refine h_ret ?_
        refine h_c ?_
        exact P.ok _ _ _ st (Rep.bl _)
      · replace P := P.iteF c1
        refine h_next ?_
        refine h_nx ?_
        refine h_seq ?_
        refine h_asg ?_
        refine h_var rfl ?_
        obtain ⟨l8, hl9, P⟩ := P.asT
        have rc10 := (r_thing.mono st.ex)
        rw [hl9] at rc10
        obtain ⟨p11, xs12, hv, hs13, hr14⟩ := Rep.st w rc10
        cases hv
        obtain ⟨gd, P⟩ := P.guard
        refine h_tupG hs13 (by rw [hr14.length, List.length_map]; exact gd) ?_
        obtain ⟨x16, hx17, P⟩ := P.ix
        obtain ⟨u18, huu18, r19⟩ := RepL.atE hr14 hx17
        obtain ⟨x20, hx21, P⟩ := P.ix
        obtain ⟨u22, huu22, r23⟩ := RepL.atE hr14 hx21
        obtain ⟨x24, hx25, P⟩ := P.ix
        obtain ⟨u26, huu26, r27⟩ := RepL.atE hr14 hx25
        obtain rfl : xs12 = [u18, u22, u26] := tup3 (by rw [hr14.length, List.length_map]; exact gd) huu18 huu22 huu26
        refine h_gcons ?_
        refine h_gname ?_
        refine h_gcons ?_
        refine h_gname ?_
        refine h_gcons ?_
        refine h_gname ?_
        refine h_gnil ?_
        refine h_nx ?_
        refine h_seq <| h_if ?_
        refine h_tor ?_
        refine h_tnot ?_
        refine h_tB ?_
        refine h_call ?_
        refine h_cons ?_
        refine h_var rfl ?_
        refine h_nil ?_
        refine ⟨B0, u18, x16, w, rfl, r19, (P.bind).mono (fun x28 P => ?_) (fun _ z => z)⟩
        refine fun v32 B29 H30 s31 r33 => ?_
        replace r19 := r19.mono s31.ex
        replace r23 := r23.mono s31.ex
        replace r27 := r27.mono s31.ex
        replace st := st.go s31 go0
        replace w := s31.ok
        cases r33
        refine h_bl ?_
        refine h_iteN (fun c1 => ?_) (fun c1 => ?_)
        · replace P := P.iteF c1
          refine h_iteT ?_
          refine h_ret ?_
          refine h_c ?_
          exact P.ok _ _ _ st (Rep.bl _)
        · replace P := P.iteT c1
          refine h_tor ?_
          refine h_tnot ?_
          refine h_tB ?_
          refine h_call ?_
          refine h_cons ?_
          refine h_c ?_
          have r34 := c_NOUGHT.rep B29
          refine h_cons ?_
          refine h_var rfl ?_
          refine h_nil ?_
          obtain ⟨x35, hx36, P⟩ := P.asD
          have rc37 := r19
          rw [hx36] at rc37
          refine ⟨B29, (.ref C_NOUGHT), (⟨0, 1⟩ : (Tp2 Int Int)), u18, x35, w, rfl, r34, rc37, (P.bind).mono (fun x38 P => ?_) (fun _ z => z)⟩
          refine fun v42 B39 H40 s41 r43 => ?_
          replace r19 := r19.mono s41.ex
          replace r23 := r23.mono s41.ex
          replace r27 := r27.mono s41.ex
          replace r34 := r34.mono s41.ex
          replace st := st.go s41 go0
          replace w := s41.ok
          cases r43
          refine h_bl ?_
          refine h_iteN (fun c1 => ?_) (fun c1 => ?_)
          · replace P := P.iteF c1
            refine h_iteT ?_
            refine h_ret ?_
            refine h_c ?_
            exact P.ok _ _ _ st (Rep.bl _)
          · replace P := P.iteT c1
            refine h_tnot ?_
            refine h_tB ?_
            refine h_call ?_
            refine h_cons ?_
            refine h_var rfl ?_
            refine h_nil ?_
            refine ⟨B39, u26, x24, w, rfl, r27, (P.bind).mono (fun x44 P => ?_) (fun _ z => z)⟩
            refine fun v48 B45 H46 s47 r49 => ?_
            replace r19 := r19.mono s47.ex
            replace r23 := r23.mono s47.ex
            replace r27 := r27.mono s47.ex
            replace st := st.go s47 go0
            replace w := s47.ok
            cases r49
            refine h_bl ?_
            refine h_iteN (fun c1 => ?_) (fun c1 => ?_)
            · replace P := P.iteF c1
              refine h_ret ?_
              refine h_c ?_
              exact P.ok _ _ _ st (Rep.bl _)
            · replace P := P.iteT c1
              refine h_next ?_
              refine h_nx ?_
              refine h_seq <| h_if ?_
              refine h_test ?_
              refine h_op ?_
              refine h_var rfl ?_
              refine h_c ?_
              refine h_isN r23 ?_
              refine h_bl ?_
              refine h_ite (fun c1 => ?_) (fun c1 => ?_)
              · replace P := P.iteT c1
                refine h_ret ?_
                refine h_op ?_
                refine h_var rfl ?_
                refine h_c ?_
                have r50 := c_NOUGHT.rep B45
                obtain ⟨gd, P⟩ := P.guard
                refine h_eqD (d := x24) (e := (enc (⟨0, 1⟩ : (Tp2 Int Int)))) w r27 r50 gd ?_
                exact P.ok _ _ _ st (Rep.bl _)
              · replace P := P.iteF c1
                refine h_next ?_
                refine h_nx ?_
                refine h_ret ?_
                refine h_call ?_
                refine h_cons ?_
                refine h_var rfl ?_
                refine h_nil ?_
                refine ⟨B45, u22, x20, w, rfl, r23, (P.bind).mono (fun x51 P => ?_) (fun _ z => z)⟩
                refine fun v55 B52 H53 s54 r56 => ?_
                replace r19 := r19.mono s54.ex
                replace r23 := r23.mono s54.ex
                replace r27 := r27.mono s54.ex
                replace st := st.go s54 go0
                replace w := s54.ok
                cases r56
                exact P.ok _ _ _ st (Rep.bl _)
theorem ok_is_edits {f : Addr} {fd : FuncData}  (F : Fun K "is_edits" "is_edits" s_is_edits f fd) {f_is_edit : Addr} {d_is_edit : FuncData} (g_is_edit : mg "is_edit" = some (.ref f_is_edit)) (k_is_edit : PySem.W.keepIn K (.ref f_is_edit) = true) (b_is_edit : L2.Binds K d_is_edit ["thing"] []) (G_is_edit : FnOk Pr wo K mg base CX0 4 f_is_edit d_is_edit ["thing"] (sp_is_edit K)) (bI_isinstance : mg "isinstance" = none) (bI_list : mg "list" = none) (bI_all : mg "all" = none) : FnOk Pr wo K mg base CX0 5 f fd ["thing"] (sp_is_edits K) := by
  refine F.ok sc_is_edits (fun vs H Q E h => ?_) (fun cdv A outer s H0 vs Q E hr h => ?_)
  · obtain ⟨_, _, _, _, rfl, _⟩ := h; rfl
  · obtain ⟨B0, v_thing, a_thing, w, rfl, r_thing, P⟩ := h
    have w0 := w
    have hu := hu_of hr
    have hu64 := hu64_of hr
    have hr4 : Room 4 _ := hr.mono (by decide)
    refine ⟨_, (pss_one (ps_ret (pe_and (pe_callB (r := rIsi K) call_isi (by rfl) bI_isinstance PyProof.Rows.boot_isinstance (pa_cons (pv 0) (pa_cons (pe_bltn (v := .ty "list") (by rfl) bI_list Y.boot_list rfl) pa_nil))) (pe_one (pe_callB (r := rAll K) (cr_all rfl) (by rfl) bI_all PyProof.Rows.boot_all (pa_cons (pe_lc (own := [("edit", 1)]) rfl sc_is_edits.nd (pi_list (pv 0)) (blkOk_by (N := ["thing", "edit"]) (sc := defScope s_is_edits) (by decide +kernel)) (fun _ _ _ _ _ => (pg_name (i := 1) sc_is_edits.nd rfl (by first | exact Or.inl rfl | exact Or.inr rfl))) (fun _ _ _ _ _ => pts_nil) (fun _ _ _ _ _ => (pe_call G_is_edit hr4 rfl g_is_edit k_is_edit b_is_edit .nil pass0 (pa_cons (pv 1) pa_nil)))) pa_nil)))))), ?_⟩
    unfold m_is_edits at P
    have st := Stp.refl (W := []) w
    refine h_ret ?_
    refine h_and ?_
    refine h_cb ?_
    refine h_cons ?_
    refine h_var rfl ?_
    refine h_cons ?_
    refine h_c ?_
    refine h_nil ?_
    obtain ⟨p1, xs2, rfl, hs3, hr4⟩ := Bor.sq (r_thing.step st)
    refine isiL (t := "list") (l := a_thing.map enc) hs3 ?_
    refine h_bl ?_
    refine h_ite (fun c1 => ?_) (fun c1 => ?_)
    · replace P := P.iteT c1
      refine h_cb ?_
      refine h_cons ?_
      refine h_lcE ?_
      refine h_var rfl ?_
      obtain ⟨p5, xs6, hv, hr8, hb7⟩ := Bor.sq0 r_thing
      cases hv
      refine h_lcL P (hb7 _ _ st) (hr8.mono st.ex) (fun Dl (acc : List Bool) (a : Unit) H' => ∃ B', Stp [] B0 H0 B' H' ∧ H0 Dl = none ∧ Mu K B' H' Dl (acc.map enc)) (fun Dl hD => ⟨_, Stp.newM w hD, hD, Mu.new w hD .nil⟩) (fun _ _ _ _ j => ?_) ?_ ?_
      · obtain ⟨B18, s19, hD20, m21⟩ := j
        exact hb7 _ _ (st.go s19 go0)
      · rintro Dl9 N10 T11 x12 v13 acc15 a16 H17 ⟨B18, s19, hD20, m21⟩ r14 hz22 kk23 kn24 P
        have wj26 := w
        have sj25 := s19
        have n27 := st.nn hD20
        replace st := st.go s19 go0
        replace w := s19.ok
        replace r14 := r14.mono s19.ex
        refine h_gname ?_
        refine h_lcT rfl ?_
        refine h_call ?_
        refine h_cons ?_
        refine h_var rfl ?_
        refine h_nil ?_
        refine ⟨B18, v13, (enc x12), w, rfl, r14, (P.bind).mono (fun x28 P => ?_) (fun _ z => z)⟩
        refine fun v32 B29 H30 s31 r33 => ?_
        replace r14 := r14.mono s31.ex
        replace m21 := m21.step s31 nm0
        replace st := st.go s31 go0
        replace sj25 := sj25.go s31 go0
        replace w := s31.ok
        cases r33
        refine h_app (b := x28) w m21 (Rep.bl _) hz22 (fun H34 s35 m21 => ?_)
        replace r14 := r14.mono s35.ex
        replace st := st.go s35 (go1 (.inr n27))
        replace sj25 := sj25.go s35 (go1 (.inr hD20))
        replace w := s35.ok
        exact kk23 x28 () _ ⟨_, sj25, hD20, m21⟩ P.ok
      · rintro Dl9 acc15 a16 H17 ⟨B18, s19, hD20, m21⟩ P
        have n36 := st.nn hD20
        replace st := st.go s19 go0
        replace w := s19.ok
        replace P := P.un2
        obtain ⟨B41, e37, k38, g39, r40⟩ := Mu.keep m21
        replace st := g39 _ _ _ st w0 n36
        replace w := st.ok
        replace r40 : Rep K B41 (.ref Dl9) (enc acc15) := r40
        refine h_nil ?_
        obtain ⟨p42, xs43, hv, hs44, hr45⟩ := Rep.sq w r40
        cases hv
        refine h_all hs44 hr45 ?_
        exact P.ok _ _ _ st (Rep.bl _)
    · replace P := P.iteF c1
      exact P.ok _ _ _ st (Rep.bl _)
theorem ok_sure_edits {f : Addr} {fd : FuncData}  (F : Fun K "sure_edits" "sure_edits" s_sure_edits f fd) {C_NoEdits : Addr} (T_NoEdits : ExcR K mg "NoEdits" C_NoEdits) {f_is_edits : Addr} {d_is_edits : FuncData} (g_is_edits : mg "is_edits" = some (.ref f_is_edits)) (k_is_edits : PySem.W.keepIn K (.ref f_is_edits) = true) (b_is_edits : L2.Binds K d_is_edits ["thing"] []) (G_is_edits : FnOk Pr wo K mg base CX0 5 f_is_edits d_is_edits ["thing"] (sp_is_edits K)) : FnOk Pr wo K mg base (L2.CX Pr wo) 6 f fd ["thing"] (sp_sure_edits K mg) := by
  refine F.okX sc_sure_edits (fun vs H Q E h => ?_) (fun cdv A outer s H0 vs Q E hr h => ?_)
  · obtain ⟨_, _, _, _, rfl, _⟩ := h; rfl
  · obtain ⟨B0, v_thing, a_thing, w, rfl, r_thing, P⟩ := h
    have w0 := w
    have hu := hu_of hr
    have hu64 := hu64_of hr
    have hr5 : Room 5 _ := hr.mono (by decide)
    refine ⟨_, (pss_one (ps_if (pt_not (pt_val (pe_call G_is_edits hr5 rfl g_is_edits k_is_edits b_is_edits .nil pass0 (pa_cons (pv 0) pa_nil)))) (pss_one (ps_raise rfl (takes_of rfl rfl rfl rfl) (pmk_own PySem.F.excBase_ValueError T_NoEdits.ex T_NoEdits.g T_NoEdits.kp (raises_own T_NoEdits.ec.hs T_NoEdits.ty) rfl))) pss_nil)), ?_⟩
    unfold m_sure_edits at P
    have st := Stp.refl (W := []) w
    refine h_if ?_
    refine h_tnot ?_
    refine h_tB ?_
    refine h_call ?_
    refine h_cons ?_
    refine h_var rfl ?_
    refine h_nil ?_
    refine ⟨B0, v_thing, a_thing, w, rfl, ((r_thing.step st).w sub0), (P.bind.noErr).mono (fun x1 P => ?_) (fun _ z => z.elim)⟩
    refine fun v5 B2 H3 s4 r6 => ?_
    replace st := st.go s4 go0
    replace w := s4.ok
    cases r6
    refine h_bl ?_
    refine h_iteN (fun c1 => ?_) (fun c1 => ?_)
    · replace P := P.iteF c1
      exact P.err _ _ _ T_NoEdits.g st
    · replace P := P.iteT c1
      refine h_next ?_
      exact P.ok _ _ _ st Rep.non
theorem ok_sure_moment {f : Addr} {fd : FuncData}  (F : Fun K "sure_moment" "sure_moment" s_sure_moment f fd) {C_NoMoment : Addr} (T_NoMoment : ExcR K mg "NoMoment" C_NoMoment) {f_is_moment : Addr} {d_is_moment : FuncData} (g_is_moment : mg "is_moment" = some (.ref f_is_moment)) (k_is_moment : PySem.W.keepIn K (.ref f_is_moment) = true) (b_is_moment : L2.Binds K d_is_moment ["thing"] []) (G_is_moment : FnOk Pr wo K mg base CX0 3 f_is_moment d_is_moment ["thing"] (sp_is_moment K)) : FnOk Pr wo K mg base (L2.CX Pr wo) 4 f fd ["thing"] (sp_sure_moment K mg) := by
  refine F.okX sc_sure_moment (fun vs H Q E h => ?_) (fun cdv A outer s H0 vs Q E hr h => ?_)
  · obtain ⟨_, _, _, _, rfl, _⟩ := h; rfl
  · obtain ⟨B0, v_thing, a_thing, w, rfl, r_thing, P⟩ := h
    have w0 := w
    have hu := hu_of hr
    have hu64 := hu64_of hr
    have hr3 : Room 3 _ := hr.mono (by decide)
    refine ⟨_, (pss_one (ps_if (pt_not (pt_val (pe_call G_is_moment hr3 rfl g_is_moment k_is_moment b_is_moment .nil pass0 (pa_cons (pv 0) pa_nil)))) (pss_one (ps_raise rfl (takes_of rfl rfl rfl rfl) (pmk_own PySem.F.excBase_ValueError T_NoMoment.ex T_NoMoment.g T_NoMoment.kp (raises_own T_NoMoment.ec.hs T_NoMoment.ty) rfl))) pss_nil)), ?_⟩
    unfold m_sure_moment at P
    have st := Stp.refl (W := []) w
    refine h_if ?_
    refine h_tnot ?_
    refine h_tB ?_
    refine h_call ?_
    refine h_cons ?_
    refine h_var rfl ?_
    refine h_nil ?_
    refine ⟨B0, v_thing, a_thing, w, rfl, (r_thing.mono st.ex), (P.bind.noErr).mono (fun x1 P => ?_) (fun _ z => z.elim)⟩
    refine fun v5 B2 H3 s4 r6 => ?_
    replace st := st.go s4 go0
    replace w := s4.ok
    cases r6
    refine h_bl ?_
    refine h_iteN (fun c1 => ?_) (fun c1 => ?_)
    · replace P := P.iteF c1
      exact P.err _ _ _ T_NoMoment.g st
    · replace P := P.iteT c1
      refine h_next ?_
      exact P.ok _ _ _ st Rep.non
theorem ok_led_by {f : Addr} {fd : FuncData}  (F : Fun K "led_by" "led_by" s_led_by f fd) {f_plus : Addr} {d_plus : FuncData} (g_plus : mg "plus" = some (.ref f_plus)) (k_plus : PySem.W.keepIn K (.ref f_plus) = true) (b_plus : L2.Binds K d_plus ["one", "other"] []) (G_plus : FnOk Pr wo K mg base (L2.CX Pr wo) 3 f_plus d_plus ["one", "other"] (sp_plus K mg)) {f_times : Addr} {d_times : FuncData} (g_times : mg "times" = some (.ref f_times)) (k_times : PySem.W.keepIn K (.ref f_times) = true) (b_times : L2.Binds K d_times ["one", "other"] []) (G_times : FnOk Pr wo K mg base (L2.CX Pr wo) 3 f_times d_times ["one", "other"] (sp_times K mg)) : FnOk Pr wo K mg base (L2.CX Pr wo) 4 f fd ["edit", "later"] (sp_led_by K mg) := by
  refine F.okX sc_led_by (fun vs H Q E h => ?_) (fun cdv A outer s H0 vs Q E hr h => ?_)
  · obtain ⟨_, _, _, _, _, _, rfl, _⟩ := h; rfl
  · obtain ⟨B0, v_edit, a_edit, v_later, a_later, w, rfl, r_edit, r_later, P⟩ := h
    have w0 := w
    have hu := hu_of hr
    have hu64 := hu64_of hr
    have hr3 : Room 3 _ := hr.mono (by decide)
    refine ⟨_, (pss_cons (ps_if (pt_cmpR op_isNn (pe_ix (r := rIxT K) ix_tup (pv 0) pe_int (fun _ _ => rfl)) pe_non (nomark _)) (pss_one (ps_ret pe_non)) pss_nil)
      (pss_one (ps_ret (pe_callS G_plus hr3 rfl g_plus k_plus b_plus (fun σ => passAt (takes_of rfl rfl rfl rfl) σ) (pa_cons (pe_ix (r := rIxT K) ix_tup (pv 0) pe_int (fun _ _ => rfl)) (pa_cons (pe_callS G_times hr3 rfl g_times k_times b_times (fun σ => passAt (takes_of rfl rfl rfl rfl) σ) (pa_cons (pe_ix (r := rIxT K) ix_tup (pv 0) pe_int (fun _ _ => rfl)) (pa_cons (pv 1) pa_nil))) pa_nil)))))), ?_⟩
    unfold m_led_by at P
    have st := Stp.refl (W := []) w
    refine h_seq <| h_if ?_
    refine h_test ?_
    refine h_op ?_
    refine h_op ?_
    refine h_var rfl ?_
    refine h_c ?_
    obtain ⟨p1, xs2, rfl, hs3, hr4⟩ := Rep.st w (r_edit.mono st.ex)
    obtain ⟨u5, hu, r6⟩ := RepL.at hr4 (i := 1) rfl
    refine h_ixT hs3 hu ?_
    refine h_c ?_
    refine h_isN r6 ?_
    refine h_bl ?_
    refine h_ite (fun c1 => ?_) (fun c1 => ?_)
    · replace P := P.iteT c1
      refine h_ret ?_
      refine h_c ?_
      exact P.ok _ _ _ st Rep.non
    · replace P := P.iteF c1
      refine h_next ?_
      refine h_nx ?_
      refine h_ret ?_
      refine h_callS ?_
      refine h_cons ?_
      refine h_op ?_
      refine h_var rfl ?_
      refine h_c ?_
      obtain ⟨p7, xs8, hv, hs9, hr10⟩ := Rep.st w (r_edit.mono st.ex)
      cases hv
      obtain ⟨u11, hu, r12⟩ := RepL.at hr10 (i := 1) rfl
      refine h_ixT hs9 hu ?_
      refine h_cons ?_
      refine h_callS ?_
      refine h_cons ?_
      refine h_op ?_
      refine h_var rfl ?_
      refine h_c ?_
      obtain ⟨p13, xs14, hv, hs15, hr16⟩ := Rep.st w (r_edit.mono st.ex)
      cases hv
      obtain ⟨u17, hu, r18⟩ := RepL.at hr16 (i := 2) rfl
      refine h_ixT hs15 hu ?_
      refine h_cons ?_
      refine h_var rfl ?_
      refine h_nil ?_
      refine ⟨B0, u17, a_edit.c, v_later, a_later, w, rfl, r18, (r_later.mono st.ex), Post.mono2 P.bind (fun e25 P => ?_) (fun x19 P => ?_)⟩
      · skip
        exact fun C B' H' g s => P C B' H' g (st.go s go0)
      refine fun v23 B20 H21 s22 r24 => ?_
      replace r12 := r12.mono s22.ex
      replace r18 := r18.mono s22.ex
      replace st := st.go s22 go0
      replace w := s22.ok
      refine h_nil ?_
      obtain ⟨x26, hx27, P⟩ := P.some
      have rc28 := r12
      rw [hx27] at rc28
      replace rc28 : Rep K B20 u11 (enc x26) := rc28
      refine ⟨B20, u11, x26, v23, x19, w, rfl, rc28, r24, Post.mono2 P.bind (fun e35 P => ?_) (fun x29 P => ?_)⟩
      · skip
        exact fun C B' H' g s => P C B' H' g (st.go s go0)
      refine fun v33 B30 H31 s32 r34 => ?_
      replace r12 := r12.mono s32.ex
      replace r24 := r24.mono s32.ex
      replace st := st.go s32 go0
      replace w := s32.ok
      exact P.ok _ _ _ st r34
theorem ok_mapped {f : Addr} {fd : FuncData}  (F : Fun K "mapped" "mapped" s_mapped f fd) {f_sure_edits : Addr} {d_sure_edits : FuncData} (g_sure_edits : mg "sure_edits" = some (.ref f_sure_edits)) (k_sure_edits : PySem.W.keepIn K (.ref f_sure_edits) = true) (b_sure_edits : L2.Binds K d_sure_edits ["thing"] []) (G_sure_edits : FnOk Pr wo K mg base (L2.CX Pr wo) 6 f_sure_edits d_sure_edits ["thing"] (sp_sure_edits K mg)) {f_sure_moment : Addr} {d_sure_moment : FuncData} (g_sure_moment : mg "sure_moment" = some (.ref f_sure_moment)) (k_sure_moment : PySem.W.keepIn K (.ref f_sure_moment) = true) (b_sure_moment : L2.Binds K d_sure_moment ["thing"] []) (G_sure_moment : FnOk Pr wo K mg base (L2.CX Pr wo) 4 f_sure_moment d_sure_moment ["thing"] (sp_sure_moment K mg)) {f_less : Addr} {d_less : FuncData} (g_less : mg "less" = some (.ref f_less)) (k_less : PySem.W.keepIn K (.ref f_less) = true) (b_less : L2.Binds K d_less ["one", "other"] []) (G_less : FnOk Pr wo K mg base CX0 1 f_less d_less ["one", "other"] (sp_less K)) {f_minus : Addr} {d_minus : FuncData} (g_minus : mg "minus" = some (.ref f_minus)) (k_minus : PySem.W.keepIn K (.ref f_minus) = true) (b_minus : L2.Binds K d_minus ["one", "other"] []) (G_minus : FnOk Pr wo K mg base (L2.CX Pr wo) 3 f_minus d_minus ["one", "other"] (sp_minus K mg)) {f_led_by : Addr} {d_led_by : FuncData} (g_led_by : mg "led_by" = some (.ref f_led_by)) (k_led_by : PySem.W.keepIn K (.ref f_led_by) = true) (b_led_by : L2.Binds K d_led_by ["edit", "later"] []) (G_led_by : FnOk Pr wo K mg base (L2.CX Pr wo) 4 f_led_by d_led_by ["edit", "later"] (sp_led_by K mg)) : FnOk Pr wo K mg base (L2.CX Pr wo) 7 f fd ["edits", "t"] (sp_mapped K mg) := by
  refine F.okX sc_mapped (fun vs H Q E h => ?_) (fun cdv A outer s H0 vs Q E hr h => ?_)
  · obtain ⟨_, _, _, _, _, _, rfl, _⟩ := h; rfl
  · obtain ⟨B0, v_edits, a_edits, v_t, a_t, w, rfl, r_edits, r_t, P⟩ := h
    have w0 := w
    have hu := hu_of hr
    have hu64 := hu64_of hr
    have hr1 : Room 1 _ := hr.mono (by decide)
    have hr3 : Room 3 _ := hr.mono (by decide)
    have hr4 : Room 4 _ := hr.mono (by decide)
    have hr6 : Room 6 _ := hr.mono (by decide)
    refine ⟨_, (pss_cons (ps_expr (pe_callS G_sure_edits hr6 rfl g_sure_edits k_sure_edits b_sure_edits (fun σ => passAt (takes_of rfl rfl rfl rfl) σ) (pa_cons (pv 0) pa_nil)))
      (pss_cons (ps_expr (pe_callS G_sure_moment hr4 rfl g_sure_moment k_sure_moment b_sure_moment (fun σ => passAt (takes_of rfl rfl rfl rfl) σ) (pa_cons (pv 1) pa_nil)))
      (pss_cons (ps_set (i := 2) sc_mapped.nd rfl (by first | exact Or.inl rfl | exact Or.inr rfl) (pv 1))
      (pss_cons (ps_for (passes_of rfl) rfl (pi_list (pv 0)) (pg_name (i := 3) sc_mapped.nd rfl (by first | exact Or.inl rfl | exact Or.inr rfl)) (pss_cons (ps_if (pt_val (pe_call G_less hr1 rfl g_less k_less b_less .nil pass0 (pa_cons (pv 2) (pa_cons (pe_ix (r := rIxT K) ix_tup (pv 3) pe_int (fun _ _ => rfl)) pa_nil)))) (pss_one (ps_ret (pe_callS G_led_by hr4 rfl g_led_by k_led_by b_led_by (fun σ => passAt (takes_of rfl rfl rfl rfl) σ) (pa_cons (pv 3) (pa_cons (pv 2) pa_nil))))) pss_nil)
      (pss_one (ps_set (i := 2) sc_mapped.nd rfl (by first | exact Or.inl rfl | exact Or.inr rfl) (pe_callS G_minus hr3 rfl g_minus k_minus b_minus (fun σ => passAt (takes_of rfl rfl rfl rfl) σ) (pa_cons (pv 2) (pa_cons (pe_ix (r := rIxT K) ix_tup (pv 3) pe_int (fun _ _ => rfl)) pa_nil)))))))
      (pss_one (ps_ret pe_non)))))), ?_⟩
    unfold m_mapped at P
    have st := Stp.refl (W := []) w
    refine h_seq ?_
    refine h_drop ?_
    refine h_callS ?_
    refine h_cons ?_
    refine h_var rfl ?_
    refine h_nil ?_
    refine ⟨B0, v_edits, a_edits, w, rfl, ((r_edits.step st).w sub0), Post.mono2 P.bind (fun e7 P => ?_) (fun x1 P => ?_)⟩
    · skip
      exact fun C B' H' g s => P C B' H' g (st.go s go0)
    refine fun v5 B2 H3 s4 r6 => ?_
    replace st := st.go s4 go0
    replace w := s4.ok
    cases r6
    refine h_nx ?_
    refine h_seq ?_
    refine h_drop ?_
    refine h_callS ?_
    refine h_cons ?_
    refine h_var rfl ?_
    refine h_nil ?_
    refine ⟨B2, v_t, (enc a_t), w, rfl, (r_t.mono st.ex), Post.mono2 P.bind (fun e14 P => ?_) (fun x8 P => ?_)⟩
    · skip
      exact fun C B' H' g s => P C B' H' g (st.go s go0)
    refine fun v12 B9 H10 s11 r13 => ?_
    replace st := st.go s11 go0
    replace w := s11.ok
    cases r13
    refine h_nx ?_
    refine h_set ?_
    refine h_var rfl ?_
    refine h_seq ?_
    refine h_forE ?_
    refine h_var rfl ?_
    obtain ⟨p15, xs16, rfl, hr18, hb17⟩ := Bor.sq0 r_edits
    have wj20 := w
    have sj19 := Stp.refl (W := []) w
    refine h_forL P (hb17 _ _ st) (hr18.mono st.ex) (fun (a : (Tp2 Int Int)) σ' H' => ∃ (B' : Hp) (v0 : V) (o_edit : Option V), Stp [] B9 H10 B' H' ∧ σ' = [some ((.ref p15)), some (v_t), some v0, o_edit] ∧ Rep K B' v0 (enc a)) ⟨_, v_t, _, sj19, rfl, (r_t.mono st.ex)⟩ (fun _ _ _ j => ?_) ?_ ?_
    · obtain ⟨B30, v33, o35, s32, rfl, r34⟩ := j
      exact hb17 _ _ (st.go s32 go0)
    · rintro N21 T22 x27 v28 a26 _ H31 ⟨B30, v33, o35, s32, rfl, r34⟩ r29 kk23 kr24 kb25 P
      replace st := st.go s32 go0
      replace w := s32.ok
      have sj19 := s32
      replace r29 := r29.mono sj19.ex
      refine h_gname ?_
      refine h_seq <| h_if ?_
      refine h_tB ?_
      refine h_call ?_
      refine h_cons ?_
      refine h_var rfl ?_
      refine h_cons ?_
      refine h_op ?_
      refine h_var rfl ?_
      refine h_c ?_
      obtain ⟨p36, xs37, rfl, hs38, hr39⟩ := Rep.st w r29
      obtain ⟨u40, hu, r41⟩ := RepL.at hr39 (i := 0) rfl
      refine h_ixT hs38 hu ?_
      refine h_nil ?_
      refine ⟨B30, v33, a26, u40, x27.a, w, rfl, r34, r41, (P.bind.noErr).mono (fun x42 P => ?_) (fun _ z => z.elim)⟩
      refine fun v46 B43 H44 s45 r47 => ?_
      replace r34 := r34.mono s45.ex
      replace r29 := r29.mono s45.ex
      replace r41 := r41.mono s45.ex
      replace st := st.go s45 go0
      replace sj19 := sj19.go s45 go0
      replace w := s45.ok
      cases r47
      refine h_bl ?_
      refine h_ite (fun c1 => ?_) (fun c1 => ?_)
      · replace P := P.iteT c1
        refine h_ret ?_
        refine h_callS ?_
        refine h_cons ?_
        refine h_var rfl ?_
        refine h_cons ?_
        refine h_var rfl ?_
        refine h_nil ?_
        refine ⟨B43, (.ref p36), x27, v33, a26, w, rfl, r29, r34, Post.mono2 P.bind (fun e54 P => ?_) (fun x48 P => ?_)⟩
        · skip
          exact fun C B' H' g s => P C B' H' g (st.go s go0)
        refine fun v52 B49 H50 s51 r53 => ?_
        replace r34 := r34.mono s51.ex
        replace r29 := r29.mono s51.ex
        replace st := st.go s51 go0
        replace sj19 := sj19.go s51 go0
        replace w := s51.ok
        exact (kr24 _ P.ok) _ _ _ st r53
      · replace P := P.iteF c1
        refine h_next ?_
        refine h_nx ?_
        refine h_set1 ?_
        refine h_callS ?_
        refine h_cons ?_
        refine h_var rfl ?_
        refine h_cons ?_
        refine h_op ?_
        refine h_var rfl ?_
        refine h_c ?_
        obtain ⟨p55, xs56, hv, hs57, hr58⟩ := Rep.st w r29
        cases hv
        obtain ⟨u59, hu, r60⟩ := RepL.at hr58 (i := 0) rfl
        refine h_ixT hs57 hu ?_
        refine h_nil ?_
        refine ⟨B43, v33, a26, u59, x27.a, w, rfl, r34, r60, Post.mono2 P.bind (fun e67 P => ?_) (fun x61 P => ?_)⟩
        · skip
          exact fun C B' H' g s => P C B' H' g (st.go s go0)
        refine fun v65 B62 H63 s64 r66 => ?_
        replace r34 := r34.mono s64.ex
        replace r29 := r29.mono s64.ex
        replace r60 := r60.mono s64.ex
        replace st := st.go s64 go0
        replace sj19 := sj19.go s64 go0
        replace w := s64.ok
        refine h_nx ?_
        exact kk23 x61 _ _ ⟨_, v65, _, sj19, rfl, r66⟩ P.ok
    · rintro a68 _ H70 ⟨B69, v72, o74, s71, rfl, r73⟩ P
      replace st := st.go s71 go0
      replace w := s71.ok
      refine h_nx ?_
      refine h_ret ?_
      refine h_c ?_
      exact P.ok _ _ _ st Rep.non
theorem ok_goes_on {f : Addr} {fd : FuncData}  (F : Fun K "goes_on" "goes_on" s_goes_on f fd) {f_led_by : Addr} {d_led_by : FuncData} (g_led_by : mg "led_by" = some (.ref f_led_by)) (k_led_by : PySem.W.keepIn K (.ref f_led_by) = true) (b_led_by : L2.Binds K d_led_by ["edit", "later"] []) (G_led_by : FnOk Pr wo K mg base (L2.CX Pr wo) 4 f_led_by d_led_by ["edit", "later"] (sp_led_by K mg)) : FnOk Pr wo K mg base (L2.CX Pr wo) 5 f fd ["one", "other"] (sp_goes_on K mg) := by
  refine F.okX sc_goes_on (fun vs H Q E h => ?_) (fun cdv A outer s H0 vs Q E hr h => ?_)
  · obtain ⟨_, _, _, _, _, _, rfl, _⟩ := h; rfl
  · obtain ⟨B0, v_one, a_one, v_other, a_other, w, rfl, r_one, r_other, P⟩ := h
    have w0 := w
    have hu := hu_of hr
    have hu64 := hu64_of hr
    have hr4 : Room 4 _ := hr.mono (by decide)
    refine ⟨_, (pss_cons (ps_if (PW.pt (pw_or (pt_cmpR op_isNn (pe_ix (r := rIxT K) ix_tup (pv 0) pe_int (fun _ _ => rfl)) pe_non (nomark _)) (pw_or1 (pt_cmpR op_isNn (pe_ix (r := rIxT K) ix_tup (pv 1) pe_int (fun _ _ => rfl)) pe_non (nomark _))))) (pss_one (ps_ret (pe_and (pe_cmpR op_isNn (pe_ix (r := rIxT K) ix_tup (pv 0) pe_int (fun _ _ => rfl)) pe_non (nomark _)) (pe_one (pe_cmpR op_isNn (pe_ix (r := rIxT K) ix_tup (pv 1) pe_int (fun _ _ => rfl)) pe_non (nomark _)))))) pss_nil)
      (pss_one (ps_ret (pe_and (pe_cmpR (r := rEqD K) (op_eqD hu64) (pe_ix (r := rIxT K) ix_tup (pv 0) pe_int (fun _ _ => rfl)) (pe_ix (r := rIxT K) ix_tup (pv 1) pe_int (fun _ _ => rfl)) (nomark _)) (pe_one (pe_cmpR (r := rEqD K) (op_eqD hu64) (pe_ix (r := rIxT K) ix_tup (pv 1) pe_int (fun _ _ => rfl)) (pe_callS G_led_by hr4 rfl g_led_by k_led_by b_led_by (fun σ => passAt (takes_of rfl rfl rfl rfl) σ) (pa_cons (pv 0) (pa_cons (pe_ix (r := rIxT K) ix_tup (pv 0) pe_int (fun _ _ => rfl)) pa_nil))) (nomark _))))))), ?_⟩
    unfold m_goes_on at P
    have st := Stp.refl (W := []) w
    refine h_seq <| h_if ?_
    have wj2 := w
    have sj1 := Stp.refl (W := []) w
    refine h_condJ P (fun H' => ∃ B', Stp [] B0 H0 B' H') (fun N kk3 P => ?_) ?_
    · skip
      refine h_tor ?_
      refine h_test ?_
      refine h_op ?_
      refine h_op ?_
      refine h_var rfl ?_
      refine h_c ?_
      obtain ⟨p4, xs5, rfl, hs6, hr7⟩ := Rep.st w (r_one.mono st.ex)
      obtain ⟨u8, hu, r9⟩ := RepL.at hr7 (i := 1) rfl
      refine h_ixT hs6 hu ?_
      refine h_c ?_
      refine h_isN r9 ?_
      refine h_bl ?_
      refine h_ite (fun c1 => ?_) (fun c1 => ?_)
      · replace P := P.iteT c1
        exact kk3 _ _ ⟨_, sj1⟩ P.ok
      · replace P := P.iteF c1
        refine h_test ?_
        refine h_op ?_
        refine h_op ?_
        refine h_var rfl ?_
        refine h_c ?_
        obtain ⟨p10, xs11, rfl, hs12, hr13⟩ := Rep.st w (r_other.mono st.ex)
        obtain ⟨u14, hu, r15⟩ := RepL.at hr13 (i := 1) rfl
        refine h_ixT hs12 hu ?_
        refine h_c ?_
        refine h_isN r15 ?_
        refine h_bl ?_
        exact kk3 _ _ ⟨_, sj1⟩ P.ok
    rintro b16 H18 ⟨B17, s19⟩ P
    replace st := st.go s19 go0
    replace w := s19.ok
    refine h_ite (fun c1 => ?_) (fun c1 => ?_)
    · replace P := P.iteT c1
      refine h_ret ?_
      refine h_and ?_
      refine h_op ?_
      refine h_op ?_
      refine h_var rfl ?_
      refine h_c ?_
      obtain ⟨p20, xs21, rfl, hs22, hr23⟩ := Rep.st w (r_one.mono st.ex)
      obtain ⟨u24, hu, r25⟩ := RepL.at hr23 (i := 1) rfl
      refine h_ixT hs22 hu ?_
      refine h_c ?_
      refine h_isN r25 ?_
      refine h_bl ?_
      refine h_ite (fun c1 => ?_) (fun c1 => ?_)
      · replace P := P.iteT c1
        refine h_op ?_
        refine h_op ?_
        refine h_var rfl ?_
        refine h_c ?_
        obtain ⟨p26, xs27, rfl, hs28, hr29⟩ := Rep.st w (r_other.mono st.ex)
        obtain ⟨u30, hu, r31⟩ := RepL.at hr29 (i := 1) rfl
        refine h_ixT hs28 hu ?_
        refine h_c ?_
        refine h_isN r31 ?_
        exact P.ok _ _ _ st (Rep.bl _)
      · replace P := P.iteF c1
        exact P.ok _ _ _ st (Rep.bl _)
    · replace P := P.iteF c1
      refine h_next ?_
      refine h_nx ?_
      refine h_ret ?_
      refine h_and ?_
      refine h_op ?_
      refine h_op ?_
      refine h_var rfl ?_
      refine h_c ?_
      obtain ⟨p32, xs33, rfl, hs34, hr35⟩ := Rep.st w (r_one.mono st.ex)
      obtain ⟨u36, hu, r37⟩ := RepL.at hr35 (i := 2) rfl
      refine h_ixT hs34 hu ?_
      refine h_op ?_
      refine h_var rfl ?_
      refine h_c ?_
      obtain ⟨p38, xs39, rfl, hs40, hr41⟩ := Rep.st w (r_other.mono st.ex)
      obtain ⟨u42, hu, r43⟩ := RepL.at hr41 (i := 2) rfl
      refine h_ixT hs40 hu ?_
      obtain ⟨gd, P⟩ := P.guard
      refine h_eqD (d := (enc a_one.c)) (e := (enc a_other.c)) w r37 r43 gd ?_
      refine h_bl ?_
      refine h_ite (fun c1 => ?_) (fun c1 => ?_)
      · replace P := P.iteT c1
        refine h_op ?_
        refine h_op ?_
        refine h_var rfl ?_
        refine h_c ?_
        obtain ⟨p44, xs45, hv, hs46, hr47⟩ := Rep.st w (r_other.mono st.ex)
        cases hv
        obtain ⟨u48, hu, r49⟩ := RepL.at hr47 (i := 1) rfl
        refine h_ixT hs46 hu ?_
        refine h_callS ?_
        refine h_cons ?_
        refine h_var rfl ?_
        refine h_cons ?_
        refine h_op ?_
        refine h_var rfl ?_
        refine h_c ?_
        obtain ⟨p50, xs51, hv, hs52, hr53⟩ := Rep.st w (r_one.mono st.ex)
        cases hv
        obtain ⟨u54, hu, r55⟩ := RepL.at hr53 (i := 0) rfl
        refine h_ixT hs52 hu ?_
        refine h_nil ?_
        refine ⟨B17, (.ref p32), a_one, u54, a_one.a, w, rfl, (r_one.mono st.ex), r55, Post.mono2 P.bind (fun e62 P => ?_) (fun x56 P => ?_)⟩
        · skip
          exact fun C B' H' g s => P C B' H' g (st.go s go0)
        refine fun v60 B57 H58 s59 r61 => ?_
        replace r49 := r49.mono s59.ex
        replace r55 := r55.mono s59.ex
        replace st := st.go s59 go0
        replace w := s59.ok
        obtain ⟨gd, P⟩ := P.guard
        refine h_eqD (d := (enc a_other.b)) (e := (enc x56)) w r49 r61 gd ?_
        exact P.ok _ _ _ st (Rep.bl _)
      · replace P := P.iteF c1
        exact P.ok _ _ _ st (Rep.bl _)
theorem ok_tidy {f : Addr} {fd : FuncData}  (F : Fun K "tidy" "tidy" s_tidy f fd) {f_sure_edits : Addr} {d_sure_edits : FuncData} (g_sure_edits : mg "sure_edits" = some (.ref f_sure_edits)) (k_sure_edits : PySem.W.keepIn K (.ref f_sure_edits) = true) (b_sure_edits : L2.Binds K d_sure_edits ["thing"] []) (G_sure_edits : FnOk Pr wo K mg base (L2.CX Pr wo) 6 f_sure_edits d_sure_edits ["thing"] (sp_sure_edits K mg)) {f_goes_on : Addr} {d_goes_on : FuncData} (g_goes_on : mg "goes_on" = some (.ref f_goes_on)) (k_goes_on : PySem.W.keepIn K (.ref f_goes_on) = true) (b_goes_on : L2.Binds K d_goes_on ["one", "other"] []) (G_goes_on : FnOk Pr wo K mg base (L2.CX Pr wo) 5 f_goes_on d_goes_on ["one", "other"] (sp_goes_on K mg)) {f_plus : Addr} {d_plus : FuncData} (g_plus : mg "plus" = some (.ref f_plus)) (k_plus : PySem.W.keepIn K (.ref f_plus) = true) (b_plus : L2.Binds K d_plus ["one", "other"] []) (G_plus : FnOk Pr wo K mg base (L2.CX Pr wo) 3 f_plus d_plus ["one", "other"] (sp_plus K mg)) : FnOk Pr wo K mg base (L2.CX Pr wo) 7 f fd ["edits"] (sp_tidy K mg) := by
  refine F.okX sc_tidy (fun vs H Q E h => ?_) (fun cdv A outer s H0 vs Q E hr h => ?_)
  · obtain ⟨_, _, _, _, rfl, _⟩ := h; rfl
  · obtain ⟨B0, v_edits, a_edits, w, rfl, r_edits, P⟩ := h
    have w0 := w
    have hu := hu_of hr
    have hu64 := hu64_of hr
    have hr3 : Room 3 _ := hr.mono (by decide)
    have hr5 : Room 5 _ := hr.mono (by decide)
    have hr6 : Room 6 _ := hr.mono (by decide)
    refine ⟨_, (pss_cons (ps_expr (pe_callS G_sure_edits hr6 rfl g_sure_edits k_sure_edits b_sure_edits (fun σ => passAt (takes_of rfl rfl rfl rfl) σ) (pa_cons (pv 0) pa_nil)))
      (pss_cons (ps_set (i := 1) sc_tidy.nd rfl (by first | exact Or.inl rfl | exact Or.inr rfl) (pe_lst pa_nil))
      (pss_cons (ps_for (passes_of rfl) rfl (pi_list (pv 0)) (pg_name (i := 2) sc_tidy.nd rfl (by first | exact Or.inl rfl | exact Or.inr rfl)) (pss_cons (ps_if (PW.pt (pw_and (pt_cmpR (r := rNeD K) (op_neD hu64) (pv 1) (pe_lst pa_nil) (nomark _)) (pw_and1 (pt_val (pe_callS G_goes_on hr5 rfl g_goes_on k_goes_on b_goes_on (fun σ => passAt (takes_of rfl rfl rfl rfl) σ) (pa_cons (pe_ix (r := rIxL K) ix_list (pv 1) (pe_un un_neg pe_int) (fun _ _ => rfl)) (pa_cons (pv 2) pa_nil))))))) (pss_cons (ps_set (i := 3) sc_tidy.nd rfl (by first | exact Or.inl rfl | exact Or.inr rfl) (pe_bm0 PySem.F.plainAttrs_list PySem.F.slot_list_pop PySem.F.type_list_pop mt_pop (pv 1)))
      (pss_one (ps_set (i := 2) sc_tidy.nd rfl (by first | exact Or.inl rfl | exact Or.inr rfl) (pe_tup (pa_cons (pe_callS G_plus hr3 rfl g_plus k_plus b_plus (fun σ => passAt (takes_of rfl rfl rfl rfl) σ) (pa_cons (pe_ix (r := rIxT K) ix_tup (pv 3) pe_int (fun _ _ => rfl)) (pa_cons (pe_ix (r := rIxT K) ix_tup (pv 2) pe_int (fun _ _ => rfl)) pa_nil))) (pa_cons (pe_ix (r := rIxT K) ix_tup (pv 3) pe_int (fun _ _ => rfl)) (pa_cons (pe_ix (r := rIxT K) ix_tup (pv 3) pe_int (fun _ _ => rfl)) pa_nil))))))) pss_nil)
      (pss_one (ps_expr (pe_bm PySem.F.plainAttrs_list PySem.F.slot_list_append PySem.F.type_list_append mt_append (pv 1) (pa_cons (pv 2) pa_nil))))))
      (pss_cons (ps_if (PW.pt (pw_and (pt_cmpR (r := rNeD K) (op_neD hu64) (pv 1) (pe_lst pa_nil) (nomark _)) (pw_and1 (pt_cmpR op_isNn (pe_ix (r := rIxT K) ix_tup (pe_ix (r := rIxL K) ix_list (pv 1) (pe_un un_neg pe_int) (fun _ _ => rfl)) pe_int (fun _ _ => rfl)) pe_non (nomark _))))) (pss_one (ps_expr (pe_bm0 PySem.F.plainAttrs_list PySem.F.slot_list_pop PySem.F.type_list_pop mt_pop (pv 1)))) pss_nil)
      (pss_one (ps_ret (pv 1))))))), ?_⟩
    unfold m_tidy at P
    have st := Stp.refl (W := []) w
    refine h_seq ?_
    refine h_drop ?_
    refine h_callS ?_
    refine h_cons ?_
    refine h_var rfl ?_
    refine h_nil ?_
    refine ⟨B0, v_edits, a_edits, w, rfl, ((r_edits.step st).w sub0), Post.mono2 P.bind (fun e7 P => ?_) (fun x1 P => ?_)⟩
    · skip
      exact fun C B' H' g s => P C B' H' g (st.go s go0)
    refine fun v5 B2 H3 s4 r6 => ?_
    replace st := st.go s4 go0
    replace w := s4.ok
    cases r6
    refine h_nx ?_
    refine h_set ?_
    refine h_lst ?_
    refine h_nil ?_
    refine h_newM w (ds := (([] : List (Tp3 (Tp2 Int Int) (Option (Tp2 Int Int)) (Tp2 Int Int)))).map enc) (K := K) .nil (fun p8 H9 hn12 s10 m11 => ?_) (by show 0 ≤ sizeLine; decide)
    have n13 := st.nn hn12
    replace st := st.go s10 go0
    replace w := s10.ok
    refine h_seq ?_
    refine h_forE ?_
    refine h_var rfl ?_
    obtain ⟨p14, xs15, rfl, hr17, hb16⟩ := Bor.sq0 r_edits
    have wj19 := w
    have sj18 := Stp.refl (W := [p8]) w
    refine h_forL P (hb16 _ _ st) (hr17.mono st.ex) (fun (a : (List (Tp3 (Tp2 Int Int) (Option (Tp2 Int Int)) (Tp2 Int Int)))) σ' H' => ∃ (B' : Hp) (o_before : Option V) (o_edit : Option V), Stp [p8] B2 H9 B' H' ∧ σ' = [some ((.ref p14)), some ((.ref p8)), o_edit, o_before] ∧ Mu K B' H' p8 (a.map enc)) ⟨_, _, _, sj18, rfl, m11⟩ (fun _ _ _ j => ?_) ?_ ?_
    · obtain ⟨B29, o32, o33, s31, rfl, m11⟩ := j
      exact hb16 _ _ (st.go s31 (go1 (.inr n13)))
    · rintro N20 T21 x26 v27 a25 _ H30 ⟨B29, o32, o33, s31, rfl, m11⟩ r28 kk22 kr23 kb24 P
      replace st := st.go s31 (go1 (.inr n13))
      replace w := s31.ok
      have sj18 := s31
      replace r28 := r28.mono sj18.ex
      refine h_gname ?_
      have wj35 := w
      have sj34 := Stp.refl (W := [p8]) w
      refine h_joinS P (fun (a : (Tp3 (Tp2 Int Int) (Option (Tp2 Int Int)) (Tp2 Int Int)) × (List (Tp3 (Tp2 Int Int) (Option (Tp2 Int Int)) (Tp2 Int Int)))) σ' H' => ∃ (B' : Hp) (v0 : V) (o_before : Option V), Stp [p8] B29 H30 B' H' ∧ σ' = [some ((.ref p14)), some ((.ref p8)), some v0, o_before] ∧ Rep K B' v0 (enc a.1) ∧ Mu K B' H' p8 (a.2.map enc)) (fun N kk36 P => h_if ?_) ?_
      · skip
        have wj38 := w
        have sj37 := Stp.refl (W := []) w
        refine h_condJ P (fun H' => ∃ B', Stp [] B29 H30 B' H') (fun N kk39 P => ?_) ?_
        · skip
          refine h_tand ?_
          refine h_test ?_
          refine h_op ?_
          refine h_var rfl ?_
          refine h_lst ?_
          refine h_nil ?_
          refine h_newL w (ds := (([] : List D)).map enc) (K := K) .nil (fun p40 B41 H42 s43 r44 => ?_) (by show 0 ≤ sizeLine; decide)
          replace m11 := m11.step s43 nm0
          replace r28 := r28.mono s43.ex
          replace st := st.go s43 go0
          replace sj18 := sj18.go s43 go0
          replace sj34 := sj34.go s43 go0
          replace sj37 := sj37.go s43 go0
          replace w := s43.ok
          replace r44 : Rep K B41 (.ref p40) (enc ([] : List D)) := r44
          obtain ⟨gd, P⟩ := P.guard
          obtain ⟨xs46, hv, hs47, hr48⟩ := Mu.sq m11
          refine h_neC (d := (enc a25)) (e := (enc ([] : List D))) (SqL.cp w hs47 hr48) (Rep.cp w r44) gd ?_
          refine h_bl ?_
          refine h_ite (fun c1 => ?_) (fun c1 => ?_)
          · replace P := P.iteT c1
            refine h_tB ?_
            refine h_callS ?_
            refine h_cons ?_
            refine h_op ?_
            refine h_var rfl ?_
            refine h_un ?_
            refine h_c ?_
            refine h_U ?_
            obtain ⟨xs50, hv, hs51, hr52⟩ := Mu.sq m11
            obtain ⟨x53, hx54, P⟩ := P.ix
            obtain ⟨u55, hu, r56⟩ := RepL.atE hr52 hx54
            refine h_ixL hs51 hu ?_
            refine h_cons ?_
            refine h_var rfl ?_
            refine h_nil ?_
            refine ⟨B41, u55, x53, v27, x26, w, rfl, r56, r28, Post.mono2 P.bind (fun e63 P => ?_) (fun x57 P => ?_)⟩
            · skip
              exact fun C B' H' g s => P C B' H' g (st.go s go0)
            refine fun v61 B58 H59 s60 r62 => ?_
            replace m11 := m11.step s60 nm0
            replace r28 := r28.mono s60.ex
            replace r56 := r56.mono s60.ex
            replace st := st.go s60 go0
            replace sj18 := sj18.go s60 go0
            replace sj34 := sj34.go s60 go0
            replace sj37 := sj37.go s60 go0
            replace w := s60.ok
            cases r62
            refine h_bl ?_
            exact kk39 _ _ ⟨_, sj37⟩ P.ok
          · replace P := P.iteF c1
            exact kk39 _ _ ⟨_, sj37⟩ P.ok
        rintro b64 H66 ⟨B65, s67⟩ P
        replace m11 := m11.step s67 nm0
        replace r28 := r28.mono s67.ex
        replace st := st.go s67 go0
        replace sj18 := sj18.go s67 go0
        replace sj34 := sj34.go s67 go0
        replace w := s67.ok
        refine h_ite (fun c1 => ?_) (fun c1 => ?_)
        · replace P := P.iteT c1
          refine h_set ?_
          refine h_bm0 ?_
          refine h_var rfl ?_
          refine h_bmL0 m11 ?_
          obtain ⟨y72, hx71, P⟩ := P.popE
          refine h_popE w m11 hx71 (fun u73 H68 s69 m11 r74 => ?_)
          replace r28 := r28.mono s69.ex
          replace st := st.go s69 (go1 (.inr n13))
          replace sj18 := sj18.go s69 (go1 (.inl (by simp)))
          replace sj34 := sj34.go s69 (go1 (.inl (by simp)))
          replace w := s69.ok
          generalize hl : (y72, List.dropLast a25) = x70 at P
          obtain rfl : y72 = x70.1 := by rw [← hl]
          have hl2 : List.dropLast a25 = x70.2 := by rw [← hl]
          rw [hl2] at m11
          refine h_set1 ?_
          refine h_tup ?_
          refine h_cons ?_
          refine h_callS ?_
          refine h_cons ?_
          refine h_op ?_
          refine h_var rfl ?_
          refine h_c ?_
          obtain ⟨p75, xs76, rfl, hs77, hr78⟩ := Rep.st w r74
          obtain ⟨u79, hu, r80⟩ := RepL.at hr78 (i := 0) rfl
          refine h_ixT hs77 hu ?_
          refine h_cons ?_
          refine h_op ?_
          refine h_var rfl ?_
          refine h_c ?_
          obtain ⟨p81, xs82, rfl, hs83, hr84⟩ := Rep.st w r28
          obtain ⟨u85, hu, r86⟩ := RepL.at hr84 (i := 0) rfl
          refine h_ixT hs83 hu ?_
          refine h_nil ?_
          refine ⟨B65, u79, x70.1.a, u85, x26.a, w, rfl, r80, r86, Post.mono2 P.bind (fun e93 P => ?_) (fun x87 P => ?_)⟩
          · skip
            exact fun C B' H' g s => P C B' H' g (st.go s go0)
          refine fun v91 B88 H89 s90 r92 => ?_
          replace m11 := m11.step s90 nm0
          replace r28 := r28.mono s90.ex
          replace r74 := r74.mono s90.ex
          replace r80 := r80.mono s90.ex
          replace r86 := r86.mono s90.ex
          replace st := st.go s90 go0
          replace sj18 := sj18.go s90 go0
          replace sj34 := sj34.go s90 go0
          replace w := s90.ok
          refine h_cons ?_
          refine h_op ?_
          refine h_var rfl ?_
          refine h_c ?_
          obtain ⟨p94, xs95, hv, hs96, hr97⟩ := Rep.st w r74
          cases hv
          obtain ⟨u98, hu, r99⟩ := RepL.at hr97 (i := 1) rfl
          refine h_ixT hs96 hu ?_
          refine h_cons ?_
          refine h_op ?_
          refine h_var rfl ?_
          refine h_c ?_
          obtain ⟨p100, xs101, hv, hs102, hr103⟩ := Rep.st w r74
          cases hv
          obtain ⟨u104, hu, r105⟩ := RepL.at hr103 (i := 2) rfl
          refine h_ixT hs102 hu ?_
          refine h_nil ?_
          refine h_newT w (K := K) (.cons r92 (.cons r99 (.cons r105 .nil))) (fun p106 B107 H108 s109 r110 => ?_) (by show 3 ≤ sizeLine; decide)
          replace m11 := m11.step s109 nm0
          replace r28 := r28.mono s109.ex
          replace r74 := r74.mono s109.ex
          replace st := st.go s109 go0
          replace sj18 := sj18.go s109 go0
          replace sj34 := sj34.go s109 go0
          replace w := s109.ok
          replace r110 : Rep K B107 (.ref p106) (enc (⟨x87, x70.1.b, x70.1.c⟩ : (Tp3 (Tp2 Int Int) (Option (Tp2 Int Int)) (Tp2 Int Int)))) := r110
          refine h_nx ?_
          exact kk36 ((⟨x87, x70.1.b, x70.1.c⟩ : (Tp3 (Tp2 Int Int) (Option (Tp2 Int Int)) (Tp2 Int Int))), x70.2) _ _ ⟨_, (.ref p106), _, sj34, rfl, r110, m11⟩ P.ok
        · replace P := P.iteF c1
          refine h_next ?_
          refine h_nx ?_
          exact kk36 (x26, a25) _ _ ⟨_, v27, _, sj34, rfl, r28, m11⟩ P.ok
      rintro a111 _ H113 ⟨B112, v115, o117, s114, rfl, r116, m11⟩ P
      replace st := st.go s114 (go1 (.inr n13))
      replace sj18 := sj18.go s114 (go1 (.inl (by simp)))
      replace w := s114.ok
      refine h_drop ?_
      refine h_bm ?_
      refine h_var rfl ?_
      refine h_bmL m11 ?_
      refine h_cons ?_
      refine h_var rfl ?_
      refine h_nil ?_
      obtain ⟨gd, P⟩ := P.guard
      refine h_append (b := a111.1) w m11 r116 gd (fun H118 s119 m11 => ?_)
      replace r116 := r116.mono s119.ex
      replace st := st.go s119 (go1 (.inr n13))
      replace sj18 := sj18.go s119 (go1 (.inl (by simp)))
      replace w := s119.ok
      refine h_nx ?_
      exact kk22 (a111.2 ++ [a111.1]) _ _ ⟨_, _, _, sj18, rfl, m11⟩ P.ok
    · rintro a120 _ H122 ⟨B121, o124, o125, s123, rfl, m11⟩ P
      replace st := st.go s123 (go1 (.inr n13))
      replace w := s123.ok
      refine h_nx ?_
      have wj127 := w
      have sj126 := Stp.refl (W := [p8]) w
      refine h_joinS P (fun (a : (List (Tp3 (Tp2 Int Int) (Option (Tp2 Int Int)) (Tp2 Int Int)))) σ' H' => ∃ (B' : Hp), Stp [p8] B121 H122 B' H' ∧ σ' = [some ((.ref p14)), some ((.ref p8)), o125, o124] ∧ Mu K B' H' p8 (a.map enc)) (fun N kk128 P => h_if ?_) ?_
      · skip
        have wj130 := w
        have sj129 := Stp.refl (W := []) w
        refine h_condJ P (fun H' => ∃ B', Stp [] B121 H122 B' H') (fun N kk131 P => ?_) ?_
        · skip
          refine h_tand ?_
          refine h_test ?_
          refine h_op ?_
          refine h_var rfl ?_
          refine h_lst ?_
          refine h_nil ?_
          refine h_newL w (ds := (([] : List D)).map enc) (K := K) .nil (fun p132 B133 H134 s135 r136 => ?_) (by show 0 ≤ sizeLine; decide)
          replace m11 := m11.step s135 nm0
          replace st := st.go s135 go0
          replace sj126 := sj126.go s135 go0
          replace sj129 := sj129.go s135 go0
          replace w := s135.ok
          replace r136 : Rep K B133 (.ref p132) (enc ([] : List D)) := r136
          obtain ⟨gd, P⟩ := P.guard
          obtain ⟨xs138, hv, hs139, hr140⟩ := Mu.sq m11
          refine h_neC (d := (enc a120)) (e := (enc ([] : List D))) (SqL.cp w hs139 hr140) (Rep.cp w r136) gd ?_
          refine h_bl ?_
          refine h_ite (fun c1 => ?_) (fun c1 => ?_)
          · replace P := P.iteT c1
            refine h_test ?_
            refine h_op ?_
            refine h_op ?_
            refine h_op ?_
            refine h_var rfl ?_
            refine h_un ?_
            refine h_c ?_
            refine h_U ?_
            obtain ⟨xs142, hv, hs143, hr144⟩ := Mu.sq m11
            obtain ⟨x145, hx146, P⟩ := P.ix
            obtain ⟨u147, hu, r148⟩ := RepL.atE hr144 hx146
            refine h_ixL hs143 hu ?_
            refine h_c ?_
            obtain ⟨p149, xs150, rfl, hs151, hr152⟩ := Rep.st w r148
            obtain ⟨u153, hu, r154⟩ := RepL.at hr152 (i := 1) rfl
            refine h_ixT hs151 hu ?_
            refine h_c ?_
            refine h_isN r154 ?_
            refine h_bl ?_
            exact kk131 _ _ ⟨_, sj129⟩ P.ok
          · replace P := P.iteF c1
            exact kk131 _ _ ⟨_, sj129⟩ P.ok
        rintro b155 H157 ⟨B156, s158⟩ P
        replace m11 := m11.step s158 nm0
        replace st := st.go s158 go0
        replace sj126 := sj126.go s158 go0
        replace w := s158.ok
        refine h_ite (fun c1 => ?_) (fun c1 => ?_)
        · replace P := P.iteT c1
          refine h_drop ?_
          refine h_bm0 ?_
          refine h_var rfl ?_
          refine h_bmL0 m11 ?_
          obtain ⟨y163, hx162, P⟩ := P.popE
          refine h_popE w m11 hx162 (fun u164 H159 s160 m11 r165 => ?_)
          replace st := st.go s160 (go1 (.inr n13))
          replace sj126 := sj126.go s160 (go1 (.inl (by simp)))
          replace w := s160.ok
          generalize hl : (y163, List.dropLast a120) = x161 at P
          obtain rfl : y163 = x161.1 := by rw [← hl]
          have hl2 : List.dropLast a120 = x161.2 := by rw [← hl]
          rw [hl2] at m11
          refine h_nx ?_
          exact kk128 x161.2 _ _ ⟨_, sj126, rfl, m11⟩ P.ok
        · replace P := P.iteF c1
          refine h_next ?_
          refine h_nx ?_
          exact kk128 a120 _ _ ⟨_, sj126, rfl, m11⟩ P.ok
      rintro a166 _ H168 ⟨B167, s169, rfl, m11⟩ P
      replace st := st.go s169 (go1 (.inr n13))
      replace w := s169.ok
      refine h_ret ?_
      refine h_var rfl ?_
      exact P.ok _ _ _ st n13 m11
theorem ok_pieces_within {f : Addr} {fd : FuncData}  (F : Fun K "pieces_within" "pieces_within" s_pieces_within f fd) {C_NOUGHT : Addr} (c_NOUGHT : CT K mg "NOUGHT" C_NOUGHT (⟨0, 1⟩ : (Tp2 Int Int))) {f_later_of : Addr} {d_later_of : FuncData} (g_later_of : mg "later_of" = some (.ref f_later_of)) (k_later_of : PySem.W.keepIn K (.ref f_later_of) = true) (b_later_of : L2.Binds K d_later_of ["one", "other"] []) (G_later_of : FnOk Pr wo K mg base CX0 2 f_later_of d_later_of ["one", "other"] (sp_later_of K)) {f_less : Addr} {d_less : FuncData} (g_less : mg "less" = some (.ref f_less)) (k_less : PySem.W.keepIn K (.ref f_less) = true) (b_less : L2.Binds K d_less ["one", "other"] []) (G_less : FnOk Pr wo K mg base CX0 1 f_less d_less ["one", "other"] (sp_less K)) {f_plus : Addr} {d_plus : FuncData} (g_plus : mg "plus" = some (.ref f_plus)) (k_plus : PySem.W.keepIn K (.ref f_plus) = true) (b_plus : L2.Binds K d_plus ["one", "other"] []) (G_plus : FnOk Pr wo K mg base (L2.CX Pr wo) 3 f_plus d_plus ["one", "other"] (sp_plus K mg)) {f_sooner_of : Addr} {d_sooner_of : FuncData} (g_sooner_of : mg "sooner_of" = some (.ref f_sooner_of)) (k_sooner_of : PySem.W.keepIn K (.ref f_sooner_of) = true) (b_sooner_of : L2.Binds K d_sooner_of ["one", "other"] []) (G_sooner_of : FnOk Pr wo K mg base CX0 2 f_sooner_of d_sooner_of ["one", "other"] (sp_sooner_of K)) {f_minus : Addr} {d_minus : FuncData} (g_minus : mg "minus" = some (.ref f_minus)) (k_minus : PySem.W.keepIn K (.ref f_minus) = true) (b_minus : L2.Binds K d_minus ["one", "other"] []) (G_minus : FnOk Pr wo K mg base (L2.CX Pr wo) 3 f_minus d_minus ["one", "other"] (sp_minus K mg)) {f_led_by : Addr} {d_led_by : FuncData} (g_led_by : mg "led_by" = some (.ref f_led_by)) (k_led_by : PySem.W.keepIn K (.ref f_led_by) = true) (b_led_by : L2.Binds K d_led_by ["edit", "later"] []) (G_led_by : FnOk Pr wo K mg base (L2.CX Pr wo) 4 f_led_by d_led_by ["edit", "later"] (sp_led_by K mg)) : FnOk Pr wo K mg base (L2.CX Pr wo) 5 f fd ["edits", "low", "high"] (sp_pieces_within K mg) := by
  refine F.okX sc_pieces_within (fun vs H Q E h => ?_) (fun cdv A outer s H0 vs Q E hr h => ?_)
  · obtain ⟨_, _, _, _, _, _, _, _, rfl, _⟩ := h; rfl
  · obtain ⟨B0, v_edits, a_edits, v_low, a_low, v_high, a_high, w, rfl, r_edits, r_low, r_high, P⟩ := h
    have w0 := w
    have hu := hu_of hr
    have hu64 := hu64_of hr
    have hr1 : Room 1 _ := hr.mono (by decide)
    have hr2 : Room 2 _ := hr.mono (by decide)
    have hr3 : Room 3 _ := hr.mono (by decide)
    have hr4 : Room 4 _ := hr.mono (by decide)
    refine ⟨_, (pss_cons (ps_set (i := 3) sc_pieces_within.nd rfl (by first | exact Or.inl rfl | exact Or.inr rfl) (pe_lst pa_nil))
      (pss_cons (ps_set (i := 4) sc_pieces_within.nd rfl (by first | exact Or.inl rfl | exact Or.inr rfl) (pe_glob (v := .ref C_NOUGHT) (by rfl) c_NOUGHT.g rfl))
      (pss_cons (ps_for (passes_of rfl) rfl (pi_list (pv 0)) (pg_name (i := 5) sc_pieces_within.nd rfl (by first | exact Or.inl rfl | exact Or.inr rfl)) (pss_cons (ps_set (i := 6) sc_pieces_within.nd rfl (by first | exact Or.inl rfl | exact Or.inr rfl) (pe_callS G_plus hr3 rfl g_plus k_plus b_plus (fun σ => passAt (takes_of rfl rfl rfl rfl) σ) (pa_cons (pv 4) (pa_cons (pe_ix (r := rIxT K) ix_tup (pv 5) pe_int (fun _ _ => rfl)) pa_nil))))
      (pss_cons (ps_set (i := 7) sc_pieces_within.nd rfl (by first | exact Or.inl rfl | exact Or.inr rfl) (pe_call G_later_of hr2 rfl g_later_of k_later_of b_later_of .nil pass0 (pa_cons (pv 4) (pa_cons (pv 1) pa_nil))))
      (pss_cons (ps_set (i := 8) sc_pieces_within.nd rfl (by first | exact Or.inl rfl | exact Or.inr rfl) (pe_call G_sooner_of hr2 rfl g_sooner_of k_sooner_of b_sooner_of .nil pass0 (pa_cons (pv 6) (pa_cons (pv 2) pa_nil))))
      (pss_cons (ps_if (pt_val (pe_call G_less hr1 rfl g_less k_less b_less .nil pass0 (pa_cons (pv 7) (pa_cons (pv 8) pa_nil)))) (pss_one (ps_expr (pe_bm PySem.F.plainAttrs_list PySem.F.slot_list_append PySem.F.type_list_append mt_append (pv 3) (pa_cons (pe_tup (pa_cons (pe_callS G_minus hr3 rfl g_minus k_minus b_minus (fun σ => passAt (takes_of rfl rfl rfl rfl) σ) (pa_cons (pv 8) (pa_cons (pv 7) pa_nil))) (pa_cons (pe_callS G_led_by hr4 rfl g_led_by k_led_by b_led_by (fun σ => passAt (takes_of rfl rfl rfl rfl) σ) (pa_cons (pv 5) (pa_cons (pe_callS G_minus hr3 rfl g_minus k_minus b_minus (fun σ => passAt (takes_of rfl rfl rfl rfl) σ) (pa_cons (pv 7) (pa_cons (pv 4) pa_nil))) pa_nil))) (pa_cons (pe_ix (r := rIxT K) ix_tup (pv 5) pe_int (fun _ _ => rfl)) pa_nil)))) pa_nil)))) pss_nil)
      (pss_one (ps_set (i := 4) sc_pieces_within.nd rfl (by first | exact Or.inl rfl | exact Or.inr rfl) (pv 6))))))))
      (pss_cons (ps_set (i := 7) sc_pieces_within.nd rfl (by first | exact Or.inl rfl | exact Or.inr rfl) (pe_call G_later_of hr2 rfl g_later_of k_later_of b_later_of .nil pass0 (pa_cons (pv 4) (pa_cons (pv 1) pa_nil))))
      (pss_cons (ps_if (pt_val (pe_call G_less hr1 rfl g_less k_less b_less .nil pass0 (pa_cons (pv 7) (pa_cons (pv 2) pa_nil)))) (pss_one (ps_expr (pe_bm PySem.F.plainAttrs_list PySem.F.slot_list_append PySem.F.type_list_append mt_append (pv 3) (pa_cons (pe_tup (pa_cons (pe_callS G_minus hr3 rfl g_minus k_minus b_minus (fun σ => passAt (takes_of rfl rfl rfl rfl) σ) (pa_cons (pv 2) (pa_cons (pv 7) pa_nil))) (pa_cons pe_non (pa_cons (pe_glob (v := .ref C_NOUGHT) (by rfl) c_NOUGHT.g rfl) pa_nil)))) pa_nil)))) pss_nil)
      (pss_one (ps_ret (pv 3)))))))), ?_⟩
    unfold m_pieces_within at P
    have st := Stp.refl (W := []) w
    refine h_set ?_
    refine h_lst ?_
    refine h_nil ?_
    refine h_newM w (ds := (([] : List (Tp3 (Tp2 Int Int) (Option (Tp2 Int Int)) (Tp2 Int Int)))).map enc) (K := K) .nil (fun p1 H2 hn5 s3 m4 => ?_) (by show 0 ≤ sizeLine; decide)
    have n6 := st.nn hn5
    replace st := st.go s3 go0
    replace w := s3.ok
    refine h_set ?_
    refine h_c ?_
    have r7 := c_NOUGHT.rep B0
    refine h_seq ?_
    refine h_forE ?_
    refine h_var rfl ?_
    obtain ⟨p8, xs9, rfl, hr11, hb10⟩ := Bor.sq0 r_edits
    have wj13 := w
    have sj12 := Stp.refl (W := [p1]) w
    refine h_forL P (hb10 _ _ st) (hr11.mono st.ex) (fun (a : (Tp2 Int Int) × (List (Tp3 (Tp2 Int Int) (Option (Tp2 Int Int)) (Tp2 Int Int)))) σ' H' => ∃ (B' : Hp) (v0 : V) (o_end : Option V) (o_first : Option V) (o_last : Option V) (o_edit : Option V), Stp [p1] B0 H2 B' H' ∧ σ' = [some ((.ref p8)), some (v_low), some (v_high), some ((.ref p1)), some v0, o_edit, o_end, o_first, o_last] ∧ Rep K B' v0 (enc a.1) ∧ Mu K B' H' p1 (a.2.map enc)) ⟨_, (.ref C_NOUGHT), _, _, _, _, sj12, rfl, r7, m4⟩ (fun _ _ _ j => ?_) ?_ ?_
    · obtain ⟨B23, v26, o28, o29, o30, o31, s25, rfl, r27, m4⟩ := j
      exact hb10 _ _ (st.go s25 (go1 (.inr n6)))
    · rintro N14 T15 x20 v21 a19 _ H24 ⟨B23, v26, o28, o29, o30, o31, s25, rfl, r27, m4⟩ r22 kk16 kr17 kb18 P
      replace st := st.go s25 (go1 (.inr n6))
      replace w := s25.ok
      have sj12 := s25
      replace r22 := r22.mono sj12.ex
      refine h_gname ?_
      refine h_set ?_
      refine h_callS ?_
      refine h_cons ?_
      refine h_var rfl ?_
      refine h_cons ?_
      refine h_op ?_
      refine h_var rfl ?_
      refine h_c ?_
      obtain ⟨p32, xs33, rfl, hs34, hr35⟩ := Rep.st w r22
      obtain ⟨u36, hu, r37⟩ := RepL.at hr35 (i := 0) rfl
      refine h_ixT hs34 hu ?_
      refine h_nil ?_
      refine ⟨B23, v26, a19.1, u36, x20.a, w, rfl, r27, r37, Post.mono2 P.bind (fun e44 P => ?_) (fun x38 P => ?_)⟩
      · skip
        exact fun C B' H' g s => P C B' H' g (st.go s go0)
      refine fun v42 B39 H40 s41 r43 => ?_
      replace m4 := m4.step s41 nm0
      replace r27 := r27.mono s41.ex
      replace r22 := r22.mono s41.ex
      replace r37 := r37.mono s41.ex
      replace st := st.go s41 go0
      replace sj12 := sj12.go s41 go0
      replace w := s41.ok
      refine h_set ?_
      refine h_call ?_
      refine h_cons ?_
      refine h_var rfl ?_
      refine h_cons ?_
      refine h_var rfl ?_
      refine h_nil ?_
      refine ⟨B39, v26, a19.1, v_low, a_low, w, rfl, r27, (r_low.mono st.ex), (P.bind.noErr).mono (fun x45 P => ?_) (fun _ z => z.elim)⟩
      refine fun v49 B46 H47 s48 r50 => ?_
      replace m4 := m4.step s48 nm0
      replace r27 := r27.mono s48.ex
      replace r22 := r22.mono s48.ex
      replace r43 := r43.mono s48.ex
      replace st := st.go s48 go0
      replace sj12 := sj12.go s48 go0
      replace w := s48.ok
      refine h_set ?_
      refine h_call ?_
      refine h_cons ?_
      refine h_var rfl ?_
      refine h_cons ?_
      refine h_var rfl ?_
      refine h_nil ?_
      refine ⟨B46, v42, x38, v_high, a_high, w, rfl, r43, (r_high.mono st.ex), (P.bind.noErr).mono (fun x51 P => ?_) (fun _ z => z.elim)⟩
      refine fun v55 B52 H53 s54 r56 => ?_
      replace m4 := m4.step s54 nm0
      replace r27 := r27.mono s54.ex
      replace r22 := r22.mono s54.ex
      replace r43 := r43.mono s54.ex
      replace r50 := r50.mono s54.ex
      replace st := st.go s54 go0
      replace sj12 := sj12.go s54 go0
      replace w := s54.ok
      have wj58 := w
      have sj57 := Stp.refl (W := [p1]) w
      refine h_joinS P (fun (a : (List (Tp3 (Tp2 Int Int) (Option (Tp2 Int Int)) (Tp2 Int Int)))) σ' H' => ∃ (B' : Hp), Stp [p1] B52 H53 B' H' ∧ σ' = [some ((.ref p8)), some (v_low), some (v_high), some ((.ref p1)), some (v26), some ((.ref p32)), some (v42), some (v49), some (v55)] ∧ Mu K B' H' p1 (a.map enc)) (fun N kk59 P => h_if ?_) ?_
      · skip
        refine h_tB ?_
        refine h_call ?_
        refine h_cons ?_
        refine h_var rfl ?_
        refine h_cons ?_
        refine h_var rfl ?_
        refine h_nil ?_
        refine ⟨B52, v49, x45, v55, x51, w, rfl, r50, r56, (P.bind.noErr).mono (fun x60 P => ?_) (fun _ z => z.elim)⟩
        refine fun v64 B61 H62 s63 r65 => ?_
        replace m4 := m4.step s63 nm0
        replace r27 := r27.mono s63.ex
        replace r22 := r22.mono s63.ex
        replace r43 := r43.mono s63.ex
        replace r50 := r50.mono s63.ex
        replace r56 := r56.mono s63.ex
        replace st := st.go s63 go0
        replace sj12 := sj12.go s63 go0
        replace sj57 := sj57.go s63 go0
        replace w := s63.ok
        cases r65
        refine h_bl ?_
        refine h_ite (fun c1 => ?_) (fun c1 => ?_)
        · replace P := P.iteT c1
          refine h_drop ?_
          refine h_bm ?_
          refine h_var rfl ?_
          refine h_bmL m4 ?_
          refine h_cons ?_
          refine h_tup ?_
          refine h_cons ?_
          refine h_callS ?_
          refine h_cons ?_
          refine h_var rfl ?_
          refine h_cons ?_
          refine h_var rfl ?_
          refine h_nil ?_
          refine ⟨B61, v55, x51, v49, x45, w, rfl, r56, r50, Post.mono2 P.bind (fun e72 P => ?_) (fun x66 P => ?_)⟩
          · skip
            exact fun C B' H' g s => P C B' H' g (st.go s go0)
          refine fun v70 B67 H68 s69 r71 => ?_
          replace m4 := m4.step s69 nm0
          replace r27 := r27.mono s69.ex
          replace r22 := r22.mono s69.ex
          replace r43 := r43.mono s69.ex
          replace r50 := r50.mono s69.ex
          replace r56 := r56.mono s69.ex
          replace st := st.go s69 go0
          replace sj12 := sj12.go s69 go0
          replace sj57 := sj57.go s69 go0
          replace w := s69.ok
          refine h_cons ?_
          refine h_callS ?_
          refine h_cons ?_
          refine h_var rfl ?_
          refine h_cons ?_
          refine h_callS ?_
          refine h_cons ?_
          refine h_var rfl ?_
          refine h_cons ?_
          refine h_var rfl ?_
          refine h_nil ?_
          refine ⟨B67, v49, x45, v26, a19.1, w, rfl, r50, r27, Post.mono2 P.bind (fun e79 P => ?_) (fun x73 P => ?_)⟩
          · skip
            exact fun C B' H' g s => P C B' H' g (st.go s go0)
          refine fun v77 B74 H75 s76 r78 => ?_
          replace m4 := m4.step s76 nm0
          replace r27 := r27.mono s76.ex
          replace r22 := r22.mono s76.ex
          replace r43 := r43.mono s76.ex
          replace r50 := r50.mono s76.ex
          replace r56 := r56.mono s76.ex
          replace r71 := r71.mono s76.ex
          replace st := st.go s76 go0
          replace sj12 := sj12.go s76 go0
          replace sj57 := sj57.go s76 go0
          replace w := s76.ok
          refine h_nil ?_
          refine ⟨B74, (.ref p32), x20, v77, x73, w, rfl, r22, r78, Post.mono2 P.bind (fun e86 P => ?_) (fun x80 P => ?_)⟩
          · skip
            exact fun C B' H' g s => P C B' H' g (st.go s go0)
          refine fun v84 B81 H82 s83 r85 => ?_
          replace m4 := m4.step s83 nm0
          replace r27 := r27.mono s83.ex
          replace r22 := r22.mono s83.ex
          replace r43 := r43.mono s83.ex
          replace r50 := r50.mono s83.ex
          replace r56 := r56.mono s83.ex
          replace r71 := r71.mono s83.ex
          replace r78 := r78.mono s83.ex
          replace st := st.go s83 go0
          replace sj12 := sj12.go s83 go0
          replace sj57 := sj57.go s83 go0
          replace w := s83.ok
          refine h_cons ?_
          refine h_op ?_
          refine h_var rfl ?_
          refine h_c ?_
          obtain ⟨p87, xs88, hv, hs89, hr90⟩ := Rep.st w r22
          cases hv
          obtain ⟨u91, hu, r92⟩ := RepL.at hr90 (i := 2) rfl
          refine h_ixT hs89 hu ?_
          refine h_nil ?_
          refine h_newT w (K := K) (.cons r71 (.cons r85 (.cons r92 .nil))) (fun p93 B94 H95 s96 r97 => ?_) (by show 3 ≤ sizeLine; decide)
          replace m4 := m4.step s96 nm0
          replace r27 := r27.mono s96.ex
          replace r22 := r22.mono s96.ex
          replace r43 := r43.mono s96.ex
          replace r50 := r50.mono s96.ex
          replace r56 := r56.mono s96.ex
          replace st := st.go s96 go0
          replace sj12 := sj12.go s96 go0
          replace sj57 := sj57.go s96 go0
          replace w := s96.ok
          replace r97 : Rep K B94 (.ref p93) (enc (⟨x66, x80, x20.c⟩ : (Tp3 (Tp2 Int Int) (Option (Tp2 Int Int)) (Tp2 Int Int)))) := r97
          refine h_nil ?_
          obtain ⟨gd, P⟩ := P.guard
          refine h_append (b := (⟨x66, x80, x20.c⟩ : (Tp3 (Tp2 Int Int) (Option (Tp2 Int Int)) (Tp2 Int Int)))) w m4 r97 gd (fun H98 s99 m4 => ?_)
          replace r27 := r27.mono s99.ex
          replace r22 := r22.mono s99.ex
          replace r43 := r43.mono s99.ex
          replace r50 := r50.mono s99.ex
          replace r56 := r56.mono s99.ex
          replace st := st.go s99 (go1 (.inr n6))
          replace sj12 := sj12.go s99 (go1 (.inl (by simp)))
          replace sj57 := sj57.go s99 (go1 (.inl (by simp)))
          replace w := s99.ok
          refine h_nx ?_
          exact kk59 (a19.2 ++ [(⟨x66, x80, x20.c⟩ : (Tp3 (Tp2 Int Int) (Option (Tp2 Int Int)) (Tp2 Int Int)))]) _ _ ⟨_, sj57, rfl, m4⟩ P.ok
        · replace P := P.iteF c1
          refine h_next ?_
          refine h_nx ?_
          exact kk59 a19.2 _ _ ⟨_, sj57, rfl, m4⟩ P.ok
      rintro a100 _ H102 ⟨B101, s103, rfl, m4⟩ P
      replace r27 := r27.mono s103.ex
      replace r22 := r22.mono s103.ex
      replace r43 := r43.mono s103.ex
      replace r50 := r50.mono s103.ex
      replace r56 := r56.mono s103.ex
      replace st := st.go s103 (go1 (.inr n6))
      replace sj12 := sj12.go s103 (go1 (.inl (by simp)))
      replace w := s103.ok
      refine h_set1 ?_
      refine h_var rfl ?_
      refine h_nx ?_
      exact kk16 (x38, a100) _ _ ⟨_, v42, _, _, _, _, sj12, rfl, r43, m4⟩ P.ok
    · rintro a104 _ H106 ⟨B105, v108, o110, o111, o112, o113, s107, rfl, r109, m4⟩ P
      replace st := st.go s107 (go1 (.inr n6))
      replace w := s107.ok
      refine h_nx ?_
      refine h_set ?_
      refine h_call ?_
      refine h_cons ?_
      refine h_var rfl ?_
      refine h_cons ?_
      refine h_var rfl ?_
      refine h_nil ?_
      refine ⟨B105, v108, a104.1, v_low, a_low, w, rfl, r109, (r_low.mono st.ex), (P.bind.noErr).mono (fun x114 P => ?_) (fun _ z => z.elim)⟩
      refine fun v118 B115 H116 s117 r119 => ?_
      replace m4 := m4.step s117 nm0
      replace r109 := r109.mono s117.ex
      replace st := st.go s117 go0
      replace w := s117.ok
      have wj121 := w
      have sj120 := Stp.refl (W := [p1]) w
      refine h_joinS P (fun (a : (List (Tp3 (Tp2 Int Int) (Option (Tp2 Int Int)) (Tp2 Int Int)))) σ' H' => ∃ (B' : Hp), Stp [p1] B115 H116 B' H' ∧ σ' = [some ((.ref p8)), some (v_low), some (v_high), some ((.ref p1)), some (v108), o113, o110, some (v118), o112] ∧ Mu K B' H' p1 (a.map enc)) (fun N kk122 P => h_if ?_) ?_
      · skip
        refine h_tB ?_
        refine h_call ?_
        refine h_cons ?_
        refine h_var rfl ?_
        refine h_cons ?_
        refine h_var rfl ?_
        refine h_nil ?_
        refine ⟨B115, v118, x114, v_high, a_high, w, rfl, r119, (r_high.mono st.ex), (P.bind.noErr).mono (fun x123 P => ?_) (fun _ z => z.elim)⟩
        refine fun v127 B124 H125 s126 r128 => ?_
        replace m4 := m4.step s126 nm0
        replace r109 := r109.mono s126.ex
        replace r119 := r119.mono s126.ex
        replace st := st.go s126 go0
        replace sj120 := sj120.go s126 go0
        replace w := s126.ok
        cases r128
        refine h_bl ?_
        refine h_ite (fun c1 => ?_) (fun c1 => ?_)
        · replace P := P.iteT c1
          refine h_drop ?_
          refine h_bm ?_
          refine h_var rfl ?_
          refine h_bmL m4 ?_
          refine h_cons ?_
          refine h_tup ?_
          refine h_cons ?_
          refine h_callS ?_
          refine h_cons ?_
          refine h_var rfl ?_
          refine h_cons ?_
          refine h_var rfl ?_
          refine h_nil ?_
          refine ⟨B124, v_high, a_high, v118, x114, w, rfl, (r_high.mono st.ex), r119, Post.mono2 P.bind (fun e135 P => ?_) (fun x129 P => ?_)⟩
          · skip
            exact fun C B' H' g s => P C B' H' g (st.go s go0)
          refine fun v133 B130 H131 s132 r134 => ?_
          replace m4 := m4.step s132 nm0
          replace r109 := r109.mono s132.ex
          replace r119 := r119.mono s132.ex
          replace st := st.go s132 go0
          replace sj120 := sj120.go s132 go0
          replace w := s132.ok
          refine h_cons ?_
          refine h_c ?_
          refine h_cons ?_
          refine h_c ?_
          have r136 := c_NOUGHT.rep B130
          refine h_nil ?_
          refine h_newT w (K := K) (.cons r134 (.cons Rep.non (.cons r136 .nil))) (fun p137 B138 H139 s140 r141 => ?_) (by show 3 ≤ sizeLine; decide)
          replace m4 := m4.step s140 nm0
          replace r109 := r109.mono s140.ex
          replace r119 := r119.mono s140.ex
          replace st := st.go s140 go0
          replace sj120 := sj120.go s140 go0
          replace w := s140.ok
          replace r141 : Rep K B138 (.ref p137) (enc (⟨x129, (), (⟨0, 1⟩ : (Tp2 Int Int))⟩ : (Tp3 (Tp2 Int Int) Unit (Tp2 Int Int)))) := r141
          refine h_nil ?_
          obtain ⟨gd, P⟩ := P.guard
          refine h_append (b := (⟨(⟨x129, (), (⟨0, 1⟩ : (Tp2 Int Int))⟩ : (Tp3 (Tp2 Int Int) Unit (Tp2 Int Int))).a, none, (⟨x129, (), (⟨0, 1⟩ : (Tp2 Int Int))⟩ : (Tp3 (Tp2 Int Int) Unit (Tp2 Int Int))).c⟩ : (Tp3 (Tp2 Int Int) (Option (Tp2 Int Int)) (Tp2 Int Int)))) w m4 r141 gd (fun H142 s143 m4 => ?_)
          replace r109 := r109.mono s143.ex
          replace r119 := r119.mono s143.ex
          replace st := st.go s143 (go1 (.inr n6))
          replace sj120 := sj120.go s143 (go1 (.inl (by simp)))
          replace w := s143.ok
          refine h_nx ?_
          exact kk122 (a104.2 ++ [(⟨(⟨x129, (), (⟨0, 1⟩ : (Tp2 Int Int))⟩ : (Tp3 (Tp2 Int Int) Unit (Tp2 Int Int))).a, none, (⟨x129, (), (⟨0, 1⟩ : (Tp2 Int Int))⟩ : (Tp3 (Tp2 Int Int) Unit (Tp2 Int Int))).c⟩ : (Tp3 (Tp2 Int Int) (Option (Tp2 Int Int)) (Tp2 Int Int)))]) _ _ ⟨_, sj120, rfl, m4⟩ P.ok
        · replace P := P.iteF c1
          refine h_next ?_
          refine h_nx ?_
          exact kk122 a104.2 _ _ ⟨_, sj120, rfl, m4⟩ P.ok
      rintro a144 _ H146 ⟨B145, s147, rfl, m4⟩ P
      replace r109 := r109.mono s147.ex
      replace r119 := r119.mono s147.ex
      replace st := st.go s147 (go1 (.inr n6))
      replace w := s147.ok
      refine h_ret ?_
      refine h_var rfl ?_
      exact P.ok _ _ _ st n6 m4
theorem ok_led_through {f : Addr} {fd : FuncData}  (F : Fun K "led_through" "led_through" s_led_through f fd) {C_NOUGHT : Addr} (c_NOUGHT : CT K mg "NOUGHT" C_NOUGHT (⟨0, 1⟩ : (Tp2 Int Int))) {f_pieces_within : Addr} {d_pieces_within : FuncData} (g_pieces_within : mg "pieces_within" = some (.ref f_pieces_within)) (k_pieces_within : PySem.W.keepIn K (.ref f_pieces_within) = true) (b_pieces_within : L2.Binds K d_pieces_within ["edits", "low", "high"] []) (G_pieces_within : FnOk Pr wo K mg base (L2.CX Pr wo) 5 f_pieces_within d_pieces_within ["edits", "low", "high"] (sp_pieces_within K mg)) {f_plus : Addr} {d_plus : FuncData} (g_plus : mg "plus" = some (.ref f_plus)) (k_plus : PySem.W.keepIn K (.ref f_plus) = true) (b_plus : L2.Binds K d_plus ["one", "other"] []) (G_plus : FnOk Pr wo K mg base (L2.CX Pr wo) 3 f_plus d_plus ["one", "other"] (sp_plus K mg)) {f_times : Addr} {d_times : FuncData} (g_times : mg "times" = some (.ref f_times)) (k_times : PySem.W.keepIn K (.ref f_times) = true) (b_times : L2.Binds K d_times ["one", "other"] []) (G_times : FnOk Pr wo K mg base (L2.CX Pr wo) 3 f_times d_times ["one", "other"] (sp_times K mg)) {f_mapped : Addr} {d_mapped : FuncData} (g_mapped : mg "mapped" = some (.ref f_mapped)) (k_mapped : PySem.W.keepIn K (.ref f_mapped) = true) (b_mapped : L2.Binds K d_mapped ["edits", "t"] []) (G_mapped : FnOk Pr wo K mg base (L2.CX Pr wo) 7 f_mapped d_mapped ["edits", "t"] (sp_mapped K mg)) {f_shared : Addr} {d_shared : FuncData} (g_shared : mg "shared" = some (.ref f_shared)) (k_shared : PySem.W.keepIn K (.ref f_shared) = true) (b_shared : L2.Binds K d_shared ["one", "other"] []) (G_shared : FnOk Pr wo K mg base (L2.CX Pr wo) 3 f_shared d_shared ["one", "other"] (sp_shared K mg)) : FnOk Pr wo K mg base (L2.CX Pr wo) 8 f fd ["edit", "inner"] (sp_led_through K mg) := by
  refine F.okX sc_led_through (fun vs H Q E h => ?_) (fun cdv A outer s H0 vs Q E hr h => ?_)
  · obtain ⟨_, _, _, _, _, _, rfl, _⟩ := h; rfl
  · obtain ⟨B0, v_edit, a_edit, v_inner, a_inner, w, rfl, r_edit, r_inner, P⟩ := h
    have w0 := w
    have hu := hu_of hr
    have hu64 := hu64_of hr
    have hr3 : Room 3 _ := hr.mono (by decide)
    have hr5 : Room 5 _ := hr.mono (by decide)
    have hr7 : Room 7 _ := hr.mono (by decide)
    refine ⟨_, (pss_cons (ps_asg (pv 0) (pg_tupK (K := K) (n := 3) rfl rfl (pgs_cons (pg_name (i := 2) sc_led_through.nd rfl (by first | exact Or.inl rfl | exact Or.inr rfl)) (pgs_cons (pg_name (i := 3) sc_led_through.nd rfl (by first | exact Or.inl rfl | exact Or.inr rfl)) (pgs_cons (pg_name (i := 4) sc_led_through.nd rfl (by first | exact Or.inl rfl | exact Or.inr rfl)) pgs_nil)))))
      (pss_cons (ps_if (pt_cmpR op_isNn (pv 3) pe_non (nomark _)) (pss_one (ps_ret (pe_lst (pa_cons (pv 0) pa_nil)))) pss_nil)
      (pss_cons (ps_if (pt_cmpR (r := rEqD K) (op_eqD hu64) (pv 4) (pe_glob (v := .ref C_NOUGHT) (by rfl) c_NOUGHT.g rfl) (nomark _)) (pss_one (ps_ret (pe_lst (pa_cons (pe_tup (pa_cons (pv 2) (pa_cons (pe_callS G_mapped hr7 rfl g_mapped k_mapped b_mapped (fun σ => passAt (takes_of rfl rfl rfl rfl) σ) (pa_cons (pv 1) (pa_cons (pv 3) pa_nil))) (pa_cons (pe_glob (v := .ref C_NOUGHT) (by rfl) c_NOUGHT.g rfl) pa_nil)))) pa_nil)))) pss_nil)
      (pss_cons (ps_set (i := 5) sc_led_through.nd rfl (by first | exact Or.inl rfl | exact Or.inr rfl) (pe_lst pa_nil))
      (pss_cons (ps_for (passes_of rfl) rfl (pi_list (pe_callS G_pieces_within hr5 rfl g_pieces_within k_pieces_within b_pieces_within (fun σ => passAt (takes_of rfl rfl rfl rfl) σ) (pa_cons (pv 1) (pa_cons (pv 3) (pa_cons (pe_callS G_plus hr3 rfl g_plus k_plus b_plus (fun σ => passAt (takes_of rfl rfl rfl rfl) σ) (pa_cons (pv 3) (pa_cons (pe_callS G_times hr3 rfl g_times k_times b_times (fun σ => passAt (takes_of rfl rfl rfl rfl) σ) (pa_cons (pv 4) (pa_cons (pv 2) pa_nil))) pa_nil))) pa_nil))))) (pg_tupK (K := K) (n := 3) rfl rfl (pgs_cons (pg_name (i := 6) sc_led_through.nd rfl (by first | exact Or.inl rfl | exact Or.inr rfl)) (pgs_cons (pg_name (i := 7) sc_led_through.nd rfl (by first | exact Or.inl rfl | exact Or.inr rfl)) (pgs_cons (pg_name (i := 8) sc_led_through.nd rfl (by first | exact Or.inl rfl | exact Or.inr rfl)) pgs_nil)))) (pss_one (ps_expr (pe_bm PySem.F.plainAttrs_list PySem.F.slot_list_append PySem.F.type_list_append mt_append (pv 5) (pa_cons (pe_tup (pa_cons (pe_callS G_shared hr3 rfl g_shared k_shared b_shared (fun σ => passAt (takes_of rfl rfl rfl rfl) σ) (pa_cons (pv 6) (pa_cons (pv 4) pa_nil))) (pa_cons (pv 7) (pa_cons (pe_callS G_times hr3 rfl g_times k_times b_times (fun σ => passAt (takes_of rfl rfl rfl rfl) σ) (pa_cons (pv 4) (pa_cons (pv 8) pa_nil))) pa_nil)))) pa_nil)))))
      (pss_one (ps_ret (pv 5)))))))), ?_⟩
    unfold m_led_through at P
    have st := Stp.refl (W := []) w
    refine h_seq ?_
    refine h_asg ?_
    refine h_var rfl ?_
    obtain ⟨p1, xs2, rfl, hs3, hr4⟩ := Rep.st w (r_edit.mono st.ex)
    obtain ⟨u5, u7, u9, rfl, r6, r8, r10⟩ := RepL.open3 hr4
    refine h_tupG hs3 rfl ?_
    refine h_gcons ?_
    refine h_gname ?_
    refine h_gcons ?_
    refine h_gname ?_
    refine h_gcons ?_
    refine h_gname ?_
    refine h_gnil ?_
    refine h_nx ?_
    refine h_seq <| h_if ?_
    refine h_test ?_
    refine h_op ?_
    refine h_var rfl ?_
    refine h_c ?_
    refine h_isN r8 ?_
    refine h_bl ?_
    refine h_ite (fun c1 => ?_) (fun c1 => ?_)
    · replace P := P.iteT c1
      refine h_ret ?_
      refine h_lst ?_
      refine h_cons ?_
      refine h_var rfl ?_
      refine h_nil ?_
      refine h_newM w (ds := (([a_edit] : List (Tp3 (Tp2 Int Int) (Option (Tp2 Int Int)) (Tp2 Int Int)))).map enc) (K := K) (.cons (r_edit.mono st.ex) .nil) (fun p11 H12 hn15 s13 m14 => ?_) (by show 1 ≤ sizeLine; decide)
      have n16 := st.nn hn15
      replace r6 := r6.mono s13.ex
      replace r8 := r8.mono s13.ex
      replace r10 := r10.mono s13.ex
      replace st := st.go s13 go0
      replace w := s13.ok
      exact P.ok _ _ _ st n16 m14
    · replace P := P.iteF c1
      refine h_next ?_
      refine h_nx ?_
      refine h_seq <| h_if ?_
      refine h_test ?_
      refine h_op ?_
      refine h_var rfl ?_
      refine h_c ?_
      have r17 := c_NOUGHT.rep B0
      obtain ⟨gd, P⟩ := P.guard
      refine h_eqD (d := (enc a_edit.c)) (e := (enc (⟨0, 1⟩ : (Tp2 Int Int)))) w r10 r17 gd ?_
      refine h_bl ?_
      refine h_ite (fun c1 => ?_) (fun c1 => ?_)
      · replace P := P.iteT c1
        refine h_ret ?_
        refine h_lst ?_
        refine h_cons ?_
        refine h_tup ?_
        refine h_cons ?_
        refine h_var rfl ?_
        refine h_cons ?_
        refine h_callS ?_
        refine h_cons ?_
        refine h_var rfl ?_
        refine h_cons ?_
        refine h_var rfl ?_
        refine h_nil ?_
        obtain ⟨x18, hx19, P⟩ := P.some
        have rc20 := r8
        rw [hx19] at rc20
        replace rc20 : Rep K B0 u7 (enc x18) := rc20
        refine ⟨B0, v_inner, a_inner, u7, x18, w, rfl, ((r_inner.step st).w sub0), rc20, Post.mono2 P.bind (fun e27 P => ?_) (fun x21 P => ?_)⟩
        · skip
          exact fun C B' H' g s => P C B' H' g (st.go s go0)
        refine fun v25 B22 H23 s24 r26 => ?_
        replace r6 := r6.mono s24.ex
        replace r8 := r8.mono s24.ex
        replace r10 := r10.mono s24.ex
        replace st := st.go s24 go0
        replace w := s24.ok
        refine h_cons ?_
        refine h_c ?_
        have r28 := c_NOUGHT.rep B22
        refine h_nil ?_
        refine h_newT w (K := K) (.cons r6 (.cons r26 (.cons r28 .nil))) (fun p29 B30 H31 s32 r33 => ?_) (by show 3 ≤ sizeLine; decide)
        replace r6 := r6.mono s32.ex
        replace r8 := r8.mono s32.ex
        replace r10 := r10.mono s32.ex
        replace st := st.go s32 go0
        replace w := s32.ok
        replace r33 : Rep K B30 (.ref p29) (enc (⟨a_edit.a, x21, (⟨0, 1⟩ : (Tp2 Int Int))⟩ : (Tp3 (Tp2 Int Int) (Option (Tp2 Int Int)) (Tp2 Int Int)))) := r33
        refine h_nil ?_
        refine h_newM w (ds := (([(⟨a_edit.a, x21, (⟨0, 1⟩ : (Tp2 Int Int))⟩ : (Tp3 (Tp2 Int Int) (Option (Tp2 Int Int)) (Tp2 Int Int)))] : List (Tp3 (Tp2 Int Int) (Option (Tp2 Int Int)) (Tp2 Int Int)))).map enc) (K := K) (.cons r33 .nil) (fun p34 H35 hn38 s36 m37 => ?_) (by show 1 ≤ sizeLine; decide)
        have n39 := st.nn hn38
        replace r6 := r6.mono s36.ex
        replace r8 := r8.mono s36.ex
        replace r10 := r10.mono s36.ex
        replace st := st.go s36 go0
        replace w := s36.ok
        exact P.ok _ _ _ st n39 m37
      · replace P := P.iteF c1
        refine h_next ?_
        refine h_nx ?_
        refine h_set ?_
        refine h_lst ?_
        refine h_nil ?_
        refine h_newM w (ds := (([] : List (Tp3 (Tp2 Int Int) (Option (Tp2 Int Int)) (Tp2 Int Int)))).map enc) (K := K) .nil (fun p40 H41 hn44 s42 m43 => ?_) (by show 0 ≤ sizeLine; decide)
        have n45 := st.nn hn44
        replace r6 := r6.mono s42.ex
        replace r8 := r8.mono s42.ex
        replace r10 := r10.mono s42.ex
        replace st := st.go s42 go0
        replace w := s42.ok
        refine h_seq ?_
        refine h_forE ?_
        refine h_callS ?_
        refine h_cons ?_
        refine h_var rfl ?_
        refine h_cons ?_
        refine h_var rfl ?_
        refine h_cons ?_
        refine h_callS ?_
        refine h_cons ?_
        refine h_var rfl ?_
        refine h_cons ?_
        refine h_callS ?_
        refine h_cons ?_
        refine h_var rfl ?_
        refine h_cons ?_
        refine h_var rfl ?_
        refine h_nil ?_
        refine ⟨B0, u9, a_edit.c, u5, a_edit.a, w, rfl, r10, r6, Post.mono2 P.bind (fun e52 P => ?_) (fun x46 P => ?_)⟩
        · skip
          exact fun C B' H' g s => P C B' H' g (st.go s go0)
        refine fun v50 B47 H48 s49 r51 => ?_
        replace r6 := r6.mono s49.ex
        replace r8 := r8.mono s49.ex
        replace r10 := r10.mono s49.ex
        replace m43 := m43.step s49 nm0
        replace st := st.go s49 go0
        replace w := s49.ok
        refine h_nil ?_
        obtain ⟨x53, hx54, P⟩ := P.some
        have rc55 := r8
        rw [hx54] at rc55
        replace rc55 : Rep K B47 u7 (enc x53) := rc55
        refine ⟨B47, u7, x53, v50, x46, w, rfl, rc55, r51, Post.mono2 P.bind (fun e62 P => ?_) (fun x56 P => ?_)⟩
        · skip
          exact fun C B' H' g s => P C B' H' g (st.go s go0)
        refine fun v60 B57 H58 s59 r61 => ?_
        replace r6 := r6.mono s59.ex
        replace r8 := r8.mono s59.ex
        replace r10 := r10.mono s59.ex
        replace m43 := m43.step s59 nm0
        replace r51 := r51.mono s59.ex
        replace st := st.go s59 go0
        replace w := s59.ok
        refine h_nil ?_
        obtain ⟨x63, hx64, P⟩ := P.some
        have rc65 := r8
        rw [hx64] at rc65
        replace rc65 : Rep K B57 u7 (enc x63) := rc65
        refine ⟨B57, v_inner, a_inner, u7, x63, v60, x56, w, rfl, ((r_inner.step st).w sub0), rc65, r61, Post.mono2 P.bind (fun e72 P => ?_) (fun x66 P => ?_)⟩
        · skip
          exact fun C B' H' g s => P C B' H' g (st.go s go0)
        refine fun p73 B67 H68 s69 hn74 m75 => ?_
        have n77 := st.nn hn74
        have ne78 := Mu.ne m43 hn74
        replace r6 := r6.mono s69.ex
        replace r8 := r8.mono s69.ex
        replace r10 := r10.mono s69.ex
        replace m43 := m43.step s69 nm0
        replace r61 := r61.mono s69.ex
        replace st := st.go s69 go0
        replace w := s69.ok
        obtain ⟨B83, e79, k80, g81, r82⟩ := Mu.keep m75
        replace st := g81 _ _ _ st w0 n77
        replace r6 := r6.mono e79
        replace r8 := r8.mono e79
        replace r10 := r10.mono e79
        replace m43 := m43.kp e79 k80 ne78
        replace w := st.ok
        replace r82 : Rep K B83 (.ref p73) (enc x66) := r82
        obtain ⟨p84, xs85, hv, hb86, hr87⟩ := Rep.sqB r82
        cases hv
        have wj89 := w
        have sj88 := Stp.refl (W := [p40]) w
        refine h_forL P (w.l hb86) hr87 (fun (a : (List (Tp3 (Tp2 Int Int) (Option (Tp2 Int Int)) (Tp2 Int Int)))) σ' H' => ∃ (B' : Hp) (o_length : Option V) (o_first : Option V) (o_pace : Option V), Stp [p40] B83 H68 B' H' ∧ σ' = [some ((.ref p1)), some (v_inner), some (u5), some (u7), some (u9), some ((.ref p40)), o_length, o_first, o_pace] ∧ Mu K B' H' p40 (a.map enc)) ⟨_, _, _, _, sj88, rfl, m43⟩ (fun _ _ _ j => ?_) ?_ ?_
        · obtain ⟨B99, o102, o103, o104, s101, rfl, m43⟩ := j
          exact s101.ok.l (s101.ex.l hb86)
        · rintro N90 T91 x96 v97 a95 _ H100 ⟨B99, o102, o103, o104, s101, rfl, m43⟩ r98 kk92 kr93 kb94 P
          replace r6 := r6.mono s101.ex
          replace r8 := r8.mono s101.ex
          replace r10 := r10.mono s101.ex
          replace st := st.go s101 (go1 (.inr n45))
          replace w := s101.ok
          have sj88 := s101
          replace r98 := r98.mono sj88.ex
          obtain ⟨p105, xs106, rfl, hs107, hr108⟩ := Rep.st w r98
          obtain ⟨u109, u111, u113, rfl, r110, r112, r114⟩ := RepL.open3 hr108
          refine h_tupG hs107 rfl ?_
          refine h_gcons ?_
          refine h_gname ?_
          refine h_gcons ?_
          refine h_gname ?_
          refine h_gcons ?_
          refine h_gname ?_
          refine h_gnil ?_
          refine h_drop ?_
          refine h_bm ?_
          refine h_var rfl ?_
          refine h_bmL m43 ?_
          refine h_cons ?_
          refine h_tup ?_
          refine h_cons ?_
          refine h_callS ?_
          refine h_cons ?_
          refine h_var rfl ?_
          refine h_cons ?_
          refine h_var rfl ?_
          refine h_nil ?_
          refine ⟨B99, u109, x96.a, u9, a_edit.c, w, rfl, r110, r10, Post.mono2 P.bind (fun e121 P => ?_) (fun x115 P => ?_)⟩
          · skip
            exact fun C B' H' g s => P C B' H' g (st.go s go0)
          refine fun v119 B116 H117 s118 r120 => ?_
          replace r6 := r6.mono s118.ex
          replace r8 := r8.mono s118.ex
          replace r10 := r10.mono s118.ex
          replace m43 := m43.step s118 nm0
          replace r110 := r110.mono s118.ex
          replace r112 := r112.mono s118.ex
          replace r114 := r114.mono s118.ex
          replace st := st.go s118 go0
          replace sj88 := sj88.go s118 go0
          replace w := s118.ok
          refine h_cons ?_
          refine h_var rfl ?_
          refine h_cons ?_
          refine h_callS ?_
          refine h_cons ?_
          refine h_var rfl ?_
          refine h_cons ?_
          refine h_var rfl ?_
          refine h_nil ?_
          refine ⟨B116, u9, a_edit.c, u113, x96.c, w, rfl, r10, r114, Post.mono2 P.bind (fun e128 P => ?_) (fun x122 P => ?_)⟩
          · skip
            exact fun C B' H' g s => P C B' H' g (st.go s go0)
          refine fun v126 B123 H124 s125 r127 => ?_
          replace r6 := r6.mono s125.ex
          replace r8 := r8.mono s125.ex
          replace r10 := r10.mono s125.ex
          replace m43 := m43.step s125 nm0
          replace r110 := r110.mono s125.ex
          replace r112 := r112.mono s125.ex
          replace r114 := r114.mono s125.ex
          replace r120 := r120.mono s125.ex
          replace st := st.go s125 go0
          replace sj88 := sj88.go s125 go0
          replace w := s125.ok
          refine h_nil ?_
          refine h_newT w (K := K) (.cons r120 (.cons r112 (.cons r127 .nil))) (fun p129 B130 H131 s132 r133 => ?_) (by show 3 ≤ sizeLine; decide)
          replace r6 := r6.mono s132.ex
          replace r8 := r8.mono s132.ex
          replace r10 := r10.mono s132.ex
          replace m43 := m43.step s132 nm0
          replace r110 := r110.mono s132.ex
          replace r112 := r112.mono s132.ex
          replace r114 := r114.mono s132.ex
          replace st := st.go s132 go0
          replace sj88 := sj88.go s132 go0
          replace w := s132.ok
          replace r133 : Rep K B130 (.ref p129) (enc (⟨x115, x96.b, x122⟩ : (Tp3 (Tp2 Int Int) (Option (Tp2 Int Int)) (Tp2 Int Int)))) := r133
          refine h_nil ?_
          obtain ⟨gd, P⟩ := P.guard
          refine h_append (b := (⟨x115, x96.b, x122⟩ : (Tp3 (Tp2 Int Int) (Option (Tp2 Int Int)) (Tp2 Int Int)))) w m43 r133 gd (fun H134 s135 m43 => ?_)
          replace r6 := r6.mono s135.ex
          replace r8 := r8.mono s135.ex
          replace r10 := r10.mono s135.ex
          replace r110 := r110.mono s135.ex
          replace r112 := r112.mono s135.ex
          replace r114 := r114.mono s135.ex
          replace st := st.go s135 (go1 (.inr n45))
          replace sj88 := sj88.go s135 (go1 (.inl (by simp)))
          replace w := s135.ok
          refine h_nx ?_
          exact kk92 (a95 ++ [(⟨x115, x96.b, x122⟩ : (Tp3 (Tp2 Int Int) (Option (Tp2 Int Int)) (Tp2 Int Int)))]) _ _ ⟨_, _, _, _, sj88, rfl, m43⟩ P.ok
        · rintro a136 _ H138 ⟨B137, o140, o141, o142, s139, rfl, m43⟩ P
          replace r6 := r6.mono s139.ex
          replace r8 := r8.mono s139.ex
          replace r10 := r10.mono s139.ex
          replace st := st.go s139 (go1 (.inr n45))
          replace w := s139.ok
          refine h_nx ?_
          refine h_ret ?_
          refine h_var rfl ?_
          exact P.ok _ _ _ st n45 m43
theorem ok_over {f : Addr} {fd : FuncData}  (F : Fun K "over" "over" s_over f fd) {f_sure_edits : Addr} {d_sure_edits : FuncData} (g_sure_edits : mg "sure_edits" = some (.ref f_sure_edits)) (k_sure_edits : PySem.W.keepIn K (.ref f_sure_edits) = true) (b_sure_edits : L2.Binds K d_sure_edits ["thing"] []) (G_sure_edits : FnOk Pr wo K mg base (L2.CX Pr wo) 6 f_sure_edits d_sure_edits ["thing"] (sp_sure_edits K mg)) {f_tidy : Addr} {d_tidy : FuncData} (g_tidy : mg "tidy" = some (.ref f_tidy)) (k_tidy : PySem.W.keepIn K (.ref f_tidy) = true) (b_tidy : L2.Binds K d_tidy ["edits"] []) (G_tidy : FnOk Pr wo K mg base (L2.CX Pr wo) 7 f_tidy d_tidy ["edits"] (sp_tidy K mg)) {f_led_through : Addr} {d_led_through : FuncData} (g_led_through : mg "led_through" = some (.ref f_led_through)) (k_led_through : PySem.W.keepIn K (.ref f_led_through) = true) (b_led_through : L2.Binds K d_led_through ["edit", "inner"] []) (G_led_through : FnOk Pr wo K mg base (L2.CX Pr wo) 8 f_led_through d_led_through ["edit", "inner"] (sp_led_through K mg)) : FnOk Pr wo K mg base (L2.CX Pr wo) 9 f fd ["outer", "inner"] (sp_over K mg) := by
  refine F.okX sc_over (fun vs H Q E h => ?_) (fun cdv A outer s H0 vs Q E hr h => ?_)
  · obtain ⟨_, _, _, _, _, _, rfl, _⟩ := h; rfl
  · obtain ⟨B0, v_outer, a_outer, v_inner, a_inner, w, rfl, r_outer, r_inner, P⟩ := h
    have w0 := w
    have hu := hu_of hr
    have hu64 := hu64_of hr
    have hr6 : Room 6 _ := hr.mono (by decide)
    have hr7 : Room 7 _ := hr.mono (by decide)
    have hr8 : Room 8 _ := hr.mono (by decide)
    refine ⟨_, (pss_cons (ps_expr (pe_callS G_sure_edits hr6 rfl g_sure_edits k_sure_edits b_sure_edits (fun σ => passAt (takes_of rfl rfl rfl rfl) σ) (pa_cons (pv 0) pa_nil)))
      (pss_cons (ps_expr (pe_callS G_sure_edits hr6 rfl g_sure_edits k_sure_edits b_sure_edits (fun σ => passAt (takes_of rfl rfl rfl rfl) σ) (pa_cons (pv 1) pa_nil)))
      (pss_cons (ps_set (i := 2) sc_over.nd rfl (by first | exact Or.inl rfl | exact Or.inr rfl) (pe_lst pa_nil))
      (pss_cons (ps_for (passes_of rfl) rfl (pi_list (pv 0)) (pg_name (i := 3) sc_over.nd rfl (by first | exact Or.inl rfl | exact Or.inr rfl)) (pss_one (ps_expr (pe_bm PySem.F.plainAttrs_list PySem.F.slot_list_extend PySem.F.type_list_extend mt_extend (pv 2) (pa_cons (pe_callS G_led_through hr8 rfl g_led_through k_led_through b_led_through (fun σ => passAt (takes_of rfl rfl rfl rfl) σ) (pa_cons (pv 3) (pa_cons (pv 1) pa_nil))) pa_nil)))))
      (pss_one (ps_ret (pe_callS G_tidy hr7 rfl g_tidy k_tidy b_tidy (fun σ => passAt (takes_of rfl rfl rfl rfl) σ) (pa_cons (pv 2) pa_nil)))))))), ?_⟩
    unfold m_over at P
    have st := Stp.refl (W := []) w
    refine h_seq ?_
    refine h_drop ?_
    refine h_callS ?_
    refine h_cons ?_
    refine h_var rfl ?_
    refine h_nil ?_
    refine ⟨B0, v_outer, a_outer, w, rfl, ((r_outer.step st).w sub0), Post.mono2 P.bind (fun e7 P => ?_) (fun x1 P => ?_)⟩
    · skip
      exact fun C B' H' g s => P C B' H' g (st.go s go0)
    refine fun v5 B2 H3 s4 r6 => ?_
    replace st := st.go s4 go0
    replace w := s4.ok
    cases r6
    refine h_nx ?_
    refine h_seq ?_
    refine h_drop ?_
    refine h_callS ?_
    refine h_cons ?_
    refine h_var rfl ?_
    refine h_nil ?_
    refine ⟨B2, v_inner, a_inner, w, rfl, ((r_inner.step st).w sub0), Post.mono2 P.bind (fun e14 P => ?_) (fun x8 P => ?_)⟩
    · skip
      exact fun C B' H' g s => P C B' H' g (st.go s go0)
    refine fun v12 B9 H10 s11 r13 => ?_
    replace st := st.go s11 go0
    replace w := s11.ok
    cases r13
    refine h_nx ?_
    refine h_set ?_
    refine h_lst ?_
    refine h_nil ?_
    refine h_newM w (ds := (([] : List (Tp3 (Tp2 Int Int) (Option (Tp2 Int Int)) (Tp2 Int Int)))).map enc) (K := K) .nil (fun p15 H16 hn19 s17 m18 => ?_) (by show 0 ≤ sizeLine; decide)
    have n20 := st.nn hn19
    replace st := st.go s17 go0
    replace w := s17.ok
    refine h_seq ?_
    refine h_forE ?_
    refine h_var rfl ?_
    obtain ⟨p21, xs22, rfl, hr24, hb23⟩ := Bor.sq0 r_outer
    have wj26 := w
    have sj25 := Stp.refl (W := [p15]) w
    refine h_forL P (hb23 _ _ st) (hr24.mono st.ex) (fun (a : (List (Tp3 (Tp2 Int Int) (Option (Tp2 Int Int)) (Tp2 Int Int)))) σ' H' => ∃ (B' : Hp) (o_edit : Option V), Stp [p15] B9 H16 B' H' ∧ σ' = [some ((.ref p21)), some (v_inner), some ((.ref p15)), o_edit] ∧ Mu K B' H' p15 (a.map enc)) ⟨_, _, sj25, rfl, m18⟩ (fun _ _ _ j => ?_) ?_ ?_
    · obtain ⟨B36, o39, s38, rfl, m18⟩ := j
      exact hb23 _ _ (st.go s38 (go1 (.inr n20)))
    · rintro N27 T28 x33 v34 a32 _ H37 ⟨B36, o39, s38, rfl, m18⟩ r35 kk29 kr30 kb31 P
      replace st := st.go s38 (go1 (.inr n20))
      replace w := s38.ok
      have sj25 := s38
      replace r35 := r35.mono sj25.ex
      refine h_gname ?_
      refine h_drop ?_
      refine h_bm ?_
      refine h_var rfl ?_
      refine h_bmL m18 ?_
      refine h_cons ?_
      refine h_callS ?_
      refine h_cons ?_
      refine h_var rfl ?_
      refine h_cons ?_
      refine h_var rfl ?_
      refine h_nil ?_
      refine ⟨B36, v34, x33, v_inner, a_inner, w, rfl, r35, ((r_inner.step st).w sub0), Post.mono2 P.bind (fun e46 P => ?_) (fun x40 P => ?_)⟩
      · skip
        exact fun C B' H' g s => P C B' H' g (st.go s go0)
      refine fun p47 B41 H42 s43 hn48 m49 => ?_
      have n51 := st.nn hn48
      have n52 := sj25.nn hn48
      have ne53 := Mu.ne m18 hn48
      replace m18 := m18.step s43 nm0
      replace r35 := r35.mono s43.ex
      replace st := st.go s43 go0
      replace sj25 := sj25.go s43 go0
      replace w := s43.ok
      refine h_nil ?_
      obtain ⟨gd, P⟩ := P.guard
      refine h_extend w m18 m49 gd (fun H54 s55 m18 => ?_)
      replace r35 := r35.mono s55.ex
      replace st := st.go s55 (go1 (.inr n20))
      replace sj25 := sj25.go s55 (go1 (.inl (by simp)))
      replace w := s55.ok
      refine h_nx ?_
      exact kk29 (a32 ++ x40) _ _ ⟨_, _, sj25, rfl, m18⟩ P.ok
    · rintro a56 _ H58 ⟨B57, o60, s59, rfl, m18⟩ P
      replace st := st.go s59 (go1 (.inr n20))
      replace w := s59.ok
      refine h_nx ?_
      refine h_ret ?_
      refine h_callS ?_
      refine h_cons ?_
      refine h_var rfl ?_
      refine h_nil ?_
      refine ⟨B57, (.ref p15), a56, w, rfl, (m18.bor nm0), Post.mono2 P.bind (fun e67 P => ?_) (fun x61 P => ?_)⟩
      · skip
        exact fun C B' H' g s => P C B' H' g (st.go s go0)
      refine fun p68 B62 H63 s64 hn69 m70 => ?_
      have n72 := st.nn hn69
      have ne73 := Mu.ne m18 hn69
      replace m18 := m18.step s64 nm0
      replace st := st.go s64 go0
      replace w := s64.ok
      exact P.ok _ _ _ st n72 m70
theorem ok__law_cell_at {f : Addr} {fd : FuncData}  (F : Fun K "_law_cell_at" "_law_cell_at" s__law_cell_at f fd) (bI_len : mg "len" = none) : FnOk Pr wo K mg base CX0 1 f fd ["_law_script", "_law_k"] (sp__law_cell_at K) := by
  refine F.ok sc__law_cell_at (fun vs H Q E h => ?_) (fun cdv A outer s H0 vs Q E hr h => ?_)
  · obtain ⟨_, _, _, _, _, rfl, _⟩ := h; rfl
  · obtain ⟨B0, v_script, a_script, a_k, w, rfl, r_script, P⟩ := h
    have w0 := w
    have hu := hu_of hr
    have hu64 := hu64_of hr
    refine ⟨_, (pss_cons (ps_if (pt_cmpR op_lt (pv 1) (pe_callB (r := rLenY K) cr_len (by rfl) bI_len PySem.boot_len (pa_cons (pv 0) pa_nil)) (nomark _)) (pss_one (ps_ret (pe_ix (r := rIxL K) ix_list (pv 0) (pv 1) (fun _ _ => rfl)))) pss_nil)
      (pss_one (ps_ret pe_int))), ?_⟩
    unfold l_cell_at at P
    have st := Stp.refl (W := []) w
    refine h_seq <| h_if ?_
    refine h_test ?_
    refine h_op ?_
    refine h_var rfl ?_
    refine h_cb ?_
    refine h_cons ?_
    refine h_var rfl ?_
    refine h_nil ?_
    obtain ⟨p1, xs2, rfl, hs3, hr4⟩ := Bor.sq (r_script.step st)
    refine h_len hs3 hr4 ?_
    refine h_I0 ?_
    refine h_bl ?_
    refine h_ite (fun c1 => ?_) (fun c1 => ?_)
    · replace P := P.iteT c1
      refine h_ret ?_
      refine h_op ?_
      refine h_var rfl ?_
      refine h_var rfl ?_
      obtain ⟨p5, xs6, hv, hs7, hr8⟩ := Bor.sq (r_script.step st)
      cases hv
      obtain ⟨x9, hx10, P⟩ := P.ix
      obtain ⟨u11, hu, r12⟩ := RepL.atE hr8 hx10
      refine h_ixL hs7 hu ?_
      cases r12
      exact P.ok _ _ _ st (Rep.int _)
    · replace P := P.iteF c1
      refine h_next ?_
      refine h_nx ?_
      refine h_ret ?_
      refine h_c ?_
      exact P.ok _ _ _ st (Rep.int _)
theorem ok__law_digit {f : Addr} {fd : FuncData}  (F : Fun K "_law_digit" "_law_digit" s__law_digit f fd) (bI_len : mg "len" = none) : FnOk Pr wo K mg base CX0 1 f fd ["_law_state", "_law_base"] (sp__law_digit K) := by
  refine F.ok sc__law_digit (fun vs H Q E h => ?_) (fun cdv A outer s H0 vs Q E hr h => ?_)
  · obtain ⟨_, _, _, _, _, rfl, _⟩ := h; rfl
  · obtain ⟨B0, p_state, a_state, a_base, w, rfl, m_state, P⟩ := h
    have w0 := w
    have hu := hu_of hr
    have hu64 := hu64_of hr
    refine ⟨_, (pss_cons (ps_if (pt_cmpR op_eq (pe_callB (r := rLenY K) cr_len (by rfl) bI_len PySem.boot_len (pa_cons (pv 0) pa_nil)) pe_int (nomark _)) (pss_one (ps_expr (pe_bm PySem.F.plainAttrs_list PySem.F.slot_list_extend PySem.F.type_list_extend mt_extend (pv 0) (pa_cons (pe_lst (pa_cons (pe_op op_mod (pe_ix (r := rIxL K) ix_list (pv 0) pe_int (fun _ _ => rfl)) pe_int) (pa_cons pe_int pa_nil))) pa_nil)))) pss_nil)
      (pss_cons (ps_if (pt_cmpR op_ge (pe_ix (r := rIxL K) ix_list (pv 0) pe_int (fun _ _ => rfl)) (pv 1) (nomark _)) (pss_cons (ps_set (i := 2) sc__law_digit.nd rfl (by first | exact Or.inl rfl | exact Or.inr rfl) (pe_op op_mod (pe_ix (r := rIxL K) ix_list (pv 0) pe_int (fun _ _ => rfl)) (pv 1)))
      (pss_cons (ps_asg (pe_op op_fdivW (pe_ix (r := rIxL K) ix_list (pv 0) pe_int (fun _ _ => rfl)) (pv 1)) (pg_sub (pv 0) pe_int set_list))
      (pss_one (ps_ret (pv 2))))) pss_nil)
      (pss_cons (ps_asg (pe_op op_add (pe_ix (r := rIxL K) ix_list (pv 0) pe_int (fun _ _ => rfl)) pe_int) (pg_sub (pv 0) pe_int set_list))
      (pss_cons (ps_set (i := 3) sc__law_digit.nd rfl (by first | exact Or.inl rfl | exact Or.inr rfl) (pe_op op_mod (pe_op op_mul (pe_op op_add (pe_op op_add (pe_ix (r := rIxL K) ix_list (pv 0) pe_int (fun _ _ => rfl)) (pe_op op_mul pe_int (pe_ix (r := rIxL K) ix_list (pv 0) pe_int (fun _ _ => rfl)))) pe_int) pe_int) pe_int))
      (pss_cons (ps_set (i := 3) sc__law_digit.nd rfl (by first | exact Or.inl rfl | exact Or.inr rfl) (pe_op op_mod (pe_op op_mulW (pv 3) (pe_op op_add (pe_op op_fdiv (pv 3) pe_int) pe_int)) pe_int))
      (pss_one (ps_ret (pe_op op_mod (pe_op op_mod (pe_op op_mulW (pv 3) (pe_op op_add (pe_op op_fdiv (pv 3) pe_int) pe_int)) pe_int) (pv 1))))))))), ?_⟩
    unfold l_digit at P
    have st := Stp.refl (W := [p_state]) w
    have wj2 := w
    have sj1 := Stp.refl (W := [p_state]) w
    refine h_joinS P (fun (a : (List Int)) σ' H' => ∃ (B' : Hp), Stp [p_state] B0 H0 B' H' ∧ σ' = [some ((.ref p_state)), some (.int a_base), none, none] ∧ Mu K B' H' p_state (a.map enc)) (fun N kk3 P => h_if ?_) ?_
    · skip
      refine h_test ?_
      refine h_op ?_
      refine h_cb ?_
      refine h_cons ?_
      refine h_var rfl ?_
      refine h_nil ?_
      obtain ⟨xs5, hv, hs6, hr7⟩ := Mu.sq m_state
      refine h_len hs6 hr7 ?_
      refine h_c ?_
      refine h_eqI ?_
      refine h_bl ?_
      refine h_ite (fun c1 => ?_) (fun c1 => ?_)
      · replace P := P.iteT c1
        refine h_drop ?_
        refine h_bm ?_
        refine h_var rfl ?_
        refine h_bmL m_state ?_
        refine h_cons ?_
        refine h_lst ?_
        refine h_cons ?_
        refine h_op ?_
        refine h_op ?_
        refine h_var rfl ?_
        refine h_c ?_
        obtain ⟨xs9, hv, hs10, hr11⟩ := Mu.sq m_state
        obtain ⟨x12, hx13, P⟩ := P.ix
        obtain ⟨u14, hu, r15⟩ := RepL.atE hr11 hx13
        refine h_ixL hs10 hu ?_
        cases r15
        refine h_c ?_
        refine h_I (by decide +kernel) ?_
        refine h_cons ?_
        refine h_c ?_
        refine h_nil ?_
        refine h_newM w (ds := (([(x12 % 2147483647), 0] : List Int)).map enc) (K := K) (.cons (Rep.int _) (.cons (Rep.int _) .nil)) (fun p16 H17 hn20 s18 m19 => ?_) (by show 2 ≤ sizeLine; decide)
        have n21 := st.nn hn20
        have n22 := sj1.nn hn20
        have ne23 := Mu.ne m_state hn20
        replace m_state := m_state.step s18 nm0
        replace st := st.go s18 go0
        replace sj1 := sj1.go s18 go0
        replace w := s18.ok
        refine h_nil ?_
        obtain ⟨gd, P⟩ := P.guard
        refine h_extend w m_state m19 gd (fun H24 s25 m_state => ?_)
        replace st := st.go s25 (go1 (.inl (by simp)))
        replace sj1 := sj1.go s25 (go1 (.inl (by simp)))
        replace w := s25.ok
        refine h_nx ?_
        exact kk3 (a_state ++ ([(x12 % 2147483647), 0] : List Int)) _ _ ⟨_, sj1, rfl, m_state⟩ P.ok
      · replace P := P.iteF c1
        refine h_next ?_
        refine h_nx ?_
        exact kk3 a_state _ _ ⟨_, sj1, rfl, m_state⟩ P.ok
    rintro a26 _ H28 ⟨B27, s29, rfl, m_state⟩ P
    replace st := st.go s29 (go1 (.inl (by simp)))
    replace w := s29.ok
    refine h_seq <| h_if ?_
    refine h_test ?_
    refine h_op ?_
    refine h_op ?_
    refine h_var rfl ?_
    refine h_c ?_
    obtain ⟨xs31, hv, hs32, hr33⟩ := Mu.sq m_state
    obtain ⟨x34, hx35, P⟩ := P.ix
    obtain ⟨u36, hu, r37⟩ := RepL.atE hr33 hx35
    refine h_ixL hs32 hu ?_
    cases r37
    refine h_var rfl ?_
    refine h_I0 ?_
    refine h_bl ?_
    refine h_ite (fun c1 => ?_) (fun c1 => ?_)
    · replace P := P.iteT c1
      refine h_set ?_
      refine h_op ?_
      refine h_op ?_
      refine h_var rfl ?_
      refine h_c ?_
      obtain ⟨xs39, hv, hs40, hr41⟩ := Mu.sq m_state
      obtain ⟨x42, hx43, P⟩ := P.ix
      obtain ⟨u44, hu, r45⟩ := RepL.atE hr41 hx43
      refine h_ixL hs40 hu ?_
      cases r45
      refine h_var rfl ?_
      obtain ⟨gd, P⟩ := P.guard
      refine h_I gd ?_
      replace P := P.lt
      generalize hx : (x42 % a_base) = x46 at P ⊢
      refine h_seq ?_
      refine h_asg ?_
      refine h_op ?_
      refine h_op ?_
      refine h_var rfl ?_
      refine h_c ?_
      obtain ⟨xs48, hv, hs49, hr50⟩ := Mu.sq m_state
      obtain ⟨x51, hx52, P⟩ := P.ix
      obtain ⟨u53, hu, r54⟩ := RepL.atE hr50 hx52
      refine h_ixL hs49 hu ?_
      cases r54
      refine h_var rfl ?_
      obtain ⟨gd, P⟩ := P.guard
      refine h_I gd ?_
      refine h_sub ?_
      refine h_var rfl ?_
      refine h_c ?_
      obtain ⟨j56, hj57, P⟩ := P.set
      refine h_setL (b := (x51 / a_base)) w m_state (Rep.int _) hj57 (fun H58 s59 m_state => ?_)
      replace st := st.go s59 (go1 (.inl (by simp)))
      replace w := s59.ok
      generalize hl : List.set a26 j56 (x51 / a_base) = x55 at *
      refine h_nx ?_
      refine h_ret ?_
      refine h_var rfl ?_
      exact P.ok _ _ _ st m_state (Rep.int _)
    · replace P := P.iteF c1
      refine h_next ?_
      refine h_nx ?_
      refine h_seq ?_
      refine h_asg ?_
      refine h_op ?_
      refine h_op ?_
      refine h_var rfl ?_
      refine h_c ?_
      obtain ⟨xs61, hv, hs62, hr63⟩ := Mu.sq m_state
      obtain ⟨x64, hx65, P⟩ := P.ix
      obtain ⟨u66, hu, r67⟩ := RepL.atE hr63 hx65
      refine h_ixL hs62 hu ?_
      cases r67
      refine h_c ?_
      refine h_I0 ?_
      refine h_sub ?_
      refine h_var rfl ?_
      refine h_c ?_
      obtain ⟨j69, hj70, P⟩ := P.set
      refine h_setL (b := (x64 + 1)) w m_state (Rep.int _) hj70 (fun H71 s72 m_state => ?_)
      replace st := st.go s72 (go1 (.inl (by simp)))
      replace w := s72.ok
      generalize hl : List.set a26 j69 (x64 + 1) = x68 at *
      refine h_nx ?_
      refine h_set ?_
      refine h_op ?_
      refine h_op ?_
      refine h_op ?_
      refine h_op ?_
      refine h_op ?_
      refine h_var rfl ?_
      refine h_c ?_
      obtain ⟨xs74, hv, hs75, hr76⟩ := Mu.sq m_state
      obtain ⟨x77, hx78, P⟩ := P.ix
      obtain ⟨u79, hu, r80⟩ := RepL.atE hr76 hx78
      refine h_ixL hs75 hu ?_
      cases r80
      refine h_op ?_
      refine h_c ?_
      refine h_op ?_
      refine h_var rfl ?_
      refine h_c ?_
      obtain ⟨xs82, hv, hs83, hr84⟩ := Mu.sq m_state
      obtain ⟨x85, hx86, P⟩ := P.ix
      obtain ⟨u87, hu, r88⟩ := RepL.atE hr84 hx86
      refine h_ixL hs83 hu ?_
      cases r88
      refine h_I (.inl ⟨by decide +kernel, by decide +kernel⟩) ?_
      refine h_I0 ?_
      refine h_c ?_
      refine h_I0 ?_
      refine h_c ?_
      refine h_I (.inr ⟨by decide +kernel, by decide +kernel⟩) ?_
      refine h_c ?_
      refine h_I (by decide +kernel) ?_
      replace P := P.lt
      generalize hx : ((((x77 + (7919 * x85)) + 1) * 48271) % 2147483647) = x89 at P ⊢
      refine h_set ?_
      refine h_op ?_
      refine h_op ?_
      refine h_var rfl ?_
      refine h_op ?_
      refine h_op ?_
      refine h_var rfl ?_
      refine h_c ?_
      refine h_I ⟨by decide +kernel, by decide +kernel⟩ ?_
      refine h_c ?_
      refine h_I0 ?_
      obtain ⟨gd, P⟩ := P.guard
      refine h_I gd ?_
      refine h_c ?_
      refine h_I (by decide +kernel) ?_
      replace P := P.lt
      generalize hx : ((x89 * ((x89 / 1009) + 69621)) % 2147483647) = x90 at P ⊢
      refine h_ret ?_
      refine h_op ?_
      refine h_op ?_
      refine h_op ?_
      refine h_var rfl ?_
      refine h_op ?_
      refine h_op ?_
      refine h_var rfl ?_
      refine h_c ?_
      refine h_I ⟨by decide +kernel, by decide +kernel⟩ ?_
      refine h_c ?_
      refine h_I0 ?_
      obtain ⟨gd, P⟩ := P.guard
      refine h_I gd ?_
      refine h_c ?_
      refine h_I (by decide +kernel) ?_
      refine h_var rfl ?_
      obtain ⟨gd, P⟩ := P.guard
      refine h_I gd ?_
      exact P.ok _ _ _ st m_state (Rep.int _)
theorem ok__law_shared {f : Addr} {fd : FuncData}  (F : Fun K "_law_shared" "_law_shared" s__law_shared f fd) (bI_abs : mg "abs" = none) : FnOk Pr wo K mg base CX0 1 f fd ["_law_one", "_law_other"] (sp__law_shared K) := by
  refine F.ok sc__law_shared (fun vs H Q E h => ?_) (fun cdv A outer s H0 vs Q E hr h => ?_)
  · obtain ⟨_, _, _, _, rfl, _⟩ := h; rfl
  · obtain ⟨B0, a_one, a_other, w, rfl, P⟩ := h
    have w0 := w
    have hu := hu_of hr
    have hu64 := hu64_of hr
    refine ⟨_, (pss_cons (ps_set (i := 0) sc__law_shared.nd rfl (by first | exact Or.inl rfl | exact Or.inr rfl) (pe_callB cr_abs (by rfl) bI_abs PyProof.Rows.boot_abs (pa_cons (pv 0) pa_nil)))
      (pss_cons (ps_set (i := 1) sc__law_shared.nd rfl (by first | exact Or.inl rfl | exact Or.inr rfl) (pe_callB cr_abs (by rfl) bI_abs PyProof.Rows.boot_abs (pa_cons (pv 1) pa_nil)))
      (pss_cons (ps_while PassesOwn.never (pt_cmpR op_gt (pv 1) pe_int (nomark _)) (pss_one (ps_par rfl sc__law_shared.nd (i := 0) (j := 1) rfl rfl (by decide) rfl rfl (pa_cons (pv 1) (pa_cons (pe_op op_mod (pv 0) (pv 1)) pa_nil)) rfl)))
      (pss_one (ps_ret (pv 0)))))), ?_⟩
    unfold l_shared at P
    have st := Stp.refl (W := []) w
    refine h_set ?_
    refine h_cb ?_
    refine h_cons ?_
    refine h_var rfl ?_
    refine h_nil ?_
    refine h_abs ?_
    replace P := P.lt
    generalize hx : (absI a_one) = x1 at P ⊢
    refine h_set ?_
    refine h_cb ?_
    refine h_cons ?_
    refine h_var rfl ?_
    refine h_nil ?_
    refine h_abs ?_
    replace P := P.lt
    generalize hx : (absI a_other) = x2 at P ⊢
    refine h_seq ?_
    have wj4 := w
    have sj3 := Stp.refl (W := []) w
    refine h_while P (fun (a : Int × Int) σ' H' => ∃ (B' : Hp), Stp [] B0 H0 B' H' ∧ σ' = [some (.int a.1), some (.int a.2)]) ⟨_, sj3, rfl⟩ ?_ ?_
    · rintro N5 C6 T7 a12 _ H14 ⟨B13, s15, rfl⟩ kn8 kk9 kr10 kb11 P
      replace st := st.go s15 go0
      replace w := s15.ok
      have sj3 := s15
      refine h_test ?_
      refine h_op ?_
      refine h_var rfl ?_
      refine h_c ?_
      refine h_I0 ?_
      refine h_bl ?_
      refine h_ite (fun c1 => ?_) (fun c1 => ?_)
      · replace P := P.iteT c1
        refine ⟨N5, kn8, ?_⟩
        refine h_par ?_
        refine h_cons ?_
        refine h_var rfl ?_
        refine h_cons ?_
        refine h_op ?_
        refine h_var rfl ?_
        refine h_var rfl ?_
        obtain ⟨gd, P⟩ := P.guard
        refine h_I gd ?_
        refine h_nil ?_
        refine h_two ?_
        replace P := P.lt
        generalize hx : (a12.1 % a12.2) = x16 at P ⊢
        refine h_nx ?_
        exact kk9 (a12.2, x16) _ _ ⟨_, sj3, rfl⟩ P.ok
      · replace P := P.iteF c1
        exact kb11 (a12.1, a12.2) _ _ ⟨_, sj3, rfl⟩ P.ok
    · rintro a17 _ H19 ⟨B18, s20, rfl⟩ P
      replace st := st.go s20 go0
      replace w := s20.ok
      refine h_nx ?_
      refine h_ret ?_
      refine h_var rfl ?_
      exact P.ok _ _ _ st (Rep.int _)
theorem ok__law_lowest {f : Addr} {fd : FuncData}  (F : Fun K "_law_lowest" "_law_lowest" s__law_lowest f fd) {f__law_shared : Addr} {d__law_shared : FuncData} (g__law_shared : mg "_law_shared" = some (.ref f__law_shared)) (k__law_shared : PySem.W.keepIn K (.ref f__law_shared) = true) (b__law_shared : L2.Binds K d__law_shared ["_law_one", "_law_other"] []) (G__law_shared : FnOk Pr wo K mg base CX0 1 f__law_shared d__law_shared ["_law_one", "_law_other"] (sp__law_shared K)) : FnOk Pr wo K mg base CX0 2 f fd ["_law_top", "_law_bottom"] (sp__law_lowest K) := by
  refine F.ok sc__law_lowest (fun vs H Q E h => ?_) (fun cdv A outer s H0 vs Q E hr h => ?_)
  · obtain ⟨_, _, _, _, rfl, _⟩ := h; rfl
  · obtain ⟨B0, a_top, a_bottom, w, rfl, P⟩ := h
    have w0 := w
    have hu := hu_of hr
    have hu64 := hu64_of hr
    have hr1 : Room 1 _ := hr.mono (by decide)
    refine ⟨_, (pss_cons (ps_set (i := 2) sc__law_lowest.nd rfl (by first | exact Or.inl rfl | exact Or.inr rfl) (pe_call G__law_shared hr1 rfl g__law_shared k__law_shared b__law_shared .nil pass0 (pa_cons (pv 0) (pa_cons (pv 1) pa_nil))))
      (pss_one (ps_ret (pe_tup (pa_cons (pe_op op_fdivW (pv 0) (pv 2)) (pa_cons (pe_op op_fdivW (pv 1) (pv 2)) pa_nil)))))), ?_⟩
    unfold l_lowest at P
    have st := Stp.refl (W := []) w
    refine h_set ?_
    refine h_call ?_
    refine h_cons ?_
    refine h_var rfl ?_
    refine h_cons ?_
    refine h_var rfl ?_
    refine h_nil ?_
    refine ⟨B0, a_top, a_bottom, w, rfl, (P.bind).mono (fun x1 P => ?_) (fun _ z => z)⟩
    refine fun v5 B2 H3 s4 r6 => ?_
    replace st := st.go s4 go0
    replace w := s4.ok
    cases r6
    refine h_ret ?_
    refine h_tup ?_
    refine h_cons ?_
    refine h_op ?_
    refine h_var rfl ?_
    refine h_var rfl ?_
    obtain ⟨gd, P⟩ := P.guard
    refine h_I gd ?_
    refine h_cons ?_
    refine h_op ?_
    refine h_var rfl ?_
    refine h_var rfl ?_
    obtain ⟨gd, P⟩ := P.guard
    refine h_I gd ?_
    refine h_nil ?_
    refine h_newT w (K := K) (.cons (Rep.int _) (.cons (Rep.int _) .nil)) (fun p7 B8 H9 s10 r11 => ?_) (by show 2 ≤ sizeLine; decide)
    replace st := st.go s10 go0
    replace w := s10.ok
    replace r11 : Rep K B8 (.ref p7) (enc (⟨(a_top / x1), (a_bottom / x1)⟩ : (Tp2 Int Int))) := r11
    exact P.ok _ _ _ st r11
theorem ok__law_plus {f : Addr} {fd : FuncData}  (F : Fun K "_law_plus" "_law_plus" s__law_plus f fd) {f__law_lowest : Addr} {d__law_lowest : FuncData} (g__law_lowest : mg "_law_lowest" = some (.ref f__law_lowest)) (k__law_lowest : PySem.W.keepIn K (.ref f__law_lowest) = true) (b__law_lowest : L2.Binds K d__law_lowest ["_law_top", "_law_bottom"] []) (G__law_lowest : FnOk Pr wo K mg base CX0 2 f__law_lowest d__law_lowest ["_law_top", "_law_bottom"] (sp__law_lowest K)) : FnOk Pr wo K mg base CX0 3 f fd ["_law_one", "_law_other"] (sp__law_plus K) := by
  refine F.ok sc__law_plus (fun vs H Q E h => ?_) (fun cdv A outer s H0 vs Q E hr h => ?_)
  · obtain ⟨_, _, _, _, _, _, rfl, _⟩ := h; rfl
  · obtain ⟨B0, v_one, a_one, v_other, a_other, w, rfl, r_one, r_other, P⟩ := h
    have w0 := w
    have hu := hu_of hr
    have hu64 := hu64_of hr
    have hr2 : Room 2 _ := hr.mono (by decide)
    refine ⟨_, (pss_one (ps_ret (pe_call G__law_lowest hr2 rfl g__law_lowest k__law_lowest b__law_lowest .nil pass0 (pa_cons (pe_op op_add (pe_op op_mulW (pe_ix (r := rIxT K) ix_tup (pv 0) pe_int (fun _ _ => rfl)) (pe_ix (r := rIxT K) ix_tup (pv 1) pe_int (fun _ _ => rfl))) (pe_op op_mulW (pe_ix (r := rIxT K) ix_tup (pv 1) pe_int (fun _ _ => rfl)) (pe_ix (r := rIxT K) ix_tup (pv 0) pe_int (fun _ _ => rfl)))) (pa_cons (pe_op op_mulW (pe_ix (r := rIxT K) ix_tup (pv 0) pe_int (fun _ _ => rfl)) (pe_ix (r := rIxT K) ix_tup (pv 1) pe_int (fun _ _ => rfl))) pa_nil))))), ?_⟩
    unfold l_plus at P
    have st := Stp.refl (W := []) w
    refine h_ret ?_
    refine h_call ?_
    refine h_cons ?_
    refine h_op ?_
    refine h_op ?_
    refine h_op ?_
    refine h_var rfl ?_
    refine h_c ?_
    obtain ⟨p1, xs2, rfl, hs3, hr4⟩ := Rep.st w (r_one.mono st.ex)
    obtain ⟨u5, hu, r6⟩ := RepL.at hr4 (i := 0) rfl
    refine h_ixT hs3 hu ?_
    cases r6
    refine h_op ?_
    refine h_var rfl ?_
    refine h_c ?_
    obtain ⟨p7, xs8, rfl, hs9, hr10⟩ := Rep.st w (r_other.mono st.ex)
    obtain ⟨u11, hu, r12⟩ := RepL.at hr10 (i := 1) rfl
    refine h_ixT hs9 hu ?_
    cases r12
    obtain ⟨gd, P⟩ := P.guard
    refine h_I gd ?_
    refine h_op ?_
    refine h_op ?_
    refine h_var rfl ?_
    refine h_c ?_
    obtain ⟨p13, xs14, hv, hs15, hr16⟩ := Rep.st w (r_other.mono st.ex)
    cases hv
    obtain ⟨u17, hu, r18⟩ := RepL.at hr16 (i := 0) rfl
    refine h_ixT hs15 hu ?_
    cases r18
    refine h_op ?_
    refine h_var rfl ?_
    refine h_c ?_
    obtain ⟨p19, xs20, hv, hs21, hr22⟩ := Rep.st w (r_one.mono st.ex)
    cases hv
    obtain ⟨u23, hu, r24⟩ := RepL.at hr22 (i := 1) rfl
    refine h_ixT hs21 hu ?_
    cases r24
    obtain ⟨gd, P⟩ := P.guard
    refine h_I gd ?_
    refine h_I0 ?_
    refine h_cons ?_
    refine h_op ?_
    refine h_op ?_
    refine h_var rfl ?_
    refine h_c ?_
    obtain ⟨p25, xs26, hv, hs27, hr28⟩ := Rep.st w (r_one.mono st.ex)
    cases hv
    obtain ⟨u29, hu, r30⟩ := RepL.at hr28 (i := 1) rfl
    refine h_ixT hs27 hu ?_
    cases r30
    refine h_op ?_
    refine h_var rfl ?_
    refine h_c ?_
    obtain ⟨p31, xs32, hv, hs33, hr34⟩ := Rep.st w (r_other.mono st.ex)
    cases hv
    obtain ⟨u35, hu, r36⟩ := RepL.at hr34 (i := 1) rfl
    refine h_ixT hs33 hu ?_
    cases r36
    obtain ⟨gd, P⟩ := P.guard
    refine h_I gd ?_
    refine h_nil ?_
    refine ⟨B0, ((a_one.a * a_other.b) + (a_other.a * a_one.b)), (a_one.b * a_other.b), w, rfl, (P.bind).mono (fun x37 P => ?_) (fun _ z => z)⟩
    refine fun v41 B38 H39 s40 r42 => ?_
    replace st := st.go s40 go0
    replace w := s40.ok
    exact P.ok _ _ _ st r42
theorem ok__law_minus {f : Addr} {fd : FuncData}  (F : Fun K "_law_minus" "_law_minus" s__law_minus f fd) {f__law_lowest : Addr} {d__law_lowest : FuncData} (g__law_lowest : mg "_law_lowest" = some (.ref f__law_lowest)) (k__law_lowest : PySem.W.keepIn K (.ref f__law_lowest) = true) (b__law_lowest : L2.Binds K d__law_lowest ["_law_top", "_law_bottom"] []) (G__law_lowest : FnOk Pr wo K mg base CX0 2 f__law_lowest d__law_lowest ["_law_top", "_law_bottom"] (sp__law_lowest K)) : FnOk Pr wo K mg base CX0 3 f fd ["_law_one", "_law_other"] (sp__law_minus K) := by
  refine F.ok sc__law_minus (fun vs H Q E h => ?_) (fun cdv A outer s H0 vs Q E hr h => ?_)
  · obtain ⟨_, _, _, _, _, _, rfl, _⟩ := h; rfl
  · obtain ⟨B0, v_one, a_one, v_other, a_other, w, rfl, r_one, r_other, P⟩ := h
    have w0 := w
    have hu := hu_of hr
    have hu64 := hu64_of hr
    have hr2 : Room 2 _ := hr.mono (by decide)
    refine ⟨_, (pss_one (ps_ret (pe_call G__law_lowest hr2 rfl g__law_lowest k__law_lowest b__law_lowest .nil pass0 (pa_cons (pe_op op_sub (pe_op op_mulW (pe_ix (r := rIxT K) ix_tup (pv 0) pe_int (fun _ _ => rfl)) (pe_ix (r := rIxT K) ix_tup (pv 1) pe_int (fun _ _ => rfl))) (pe_op op_mulW (pe_ix (r := rIxT K) ix_tup (pv 1) pe_int (fun _ _ => rfl)) (pe_ix (r := rIxT K) ix_tup (pv 0) pe_int (fun _ _ => rfl)))) (pa_cons (pe_op op_mulW (pe_ix (r := rIxT K) ix_tup (pv 0) pe_int (fun _ _ => rfl)) (pe_ix (r := rIxT K) ix_tup (pv 1) pe_int (fun _ _ => rfl))) pa_nil))))), ?_⟩
    unfold l_minus at P
    have st := Stp.refl (W := []) w
    refine h_ret ?_
    refine h_call ?_
    refine h_cons ?_
    refine h_op ?_
    refine h_op ?_
    refine h_op ?_
    refine h_var rfl ?_
    refine h_c ?_
    obtain ⟨p1, xs2, rfl, hs3, hr4⟩ := Rep.st w (r_one.mono st.ex)
    obtain ⟨u5, hu, r6⟩ := RepL.at hr4 (i := 0) rfl
    refine h_ixT hs3 hu ?_
    cases r6
    refine h_op ?_
    refine h_var rfl ?_
    refine h_c ?_
    obtain ⟨p7, xs8, rfl, hs9, hr10⟩ := Rep.st w (r_other.mono st.ex)
    obtain ⟨u11, hu, r12⟩ := RepL.at hr10 (i := 1) rfl
    refine h_ixT hs9 hu ?_
    cases r12
    obtain ⟨gd, P⟩ := P.guard
    refine h_I gd ?_
    refine h_op ?_
    refine h_op ?_
    refine h_var rfl ?_
    refine h_c ?_
    obtain ⟨p13, xs14, hv, hs15, hr16⟩ := Rep.st w (r_other.mono st.ex)
    cases hv
    obtain ⟨u17, hu, r18⟩ := RepL.at hr16 (i := 0) rfl
    refine h_ixT hs15 hu ?_
    cases r18
    refine h_op ?_
    refine h_var rfl ?_
    refine h_c ?_
    obtain ⟨p19, xs20, hv, hs21, hr22⟩ := Rep.st w (r_one.mono st.ex)
    cases hv
    obtain ⟨u23, hu, r24⟩ := RepL.at hr22 (i := 1) rfl
    refine h_ixT hs21 hu ?_
    cases r24
    obtain ⟨gd, P⟩ := P.guard
    refine h_I gd ?_
    refine h_I0 ?_
    refine h_cons ?_
    refine h_op ?_
    refine h_op ?_
    refine h_var rfl ?_
    refine h_c ?_
    obtain ⟨p25, xs26, hv, hs27, hr28⟩ := Rep.st w (r_one.mono st.ex)
    cases hv
    obtain ⟨u29, hu, r30⟩ := RepL.at hr28 (i := 1) rfl
    refine h_ixT hs27 hu ?_
    cases r30
    refine h_op ?_
    refine h_var rfl ?_
    refine h_c ?_
    obtain ⟨p31, xs32, hv, hs33, hr34⟩ := Rep.st w (r_other.mono st.ex)
    cases hv
    obtain ⟨u35, hu, r36⟩ := RepL.at hr34 (i := 1) rfl
    refine h_ixT hs33 hu ?_
    cases r36
    obtain ⟨gd, P⟩ := P.guard
    refine h_I gd ?_
    refine h_nil ?_
    refine ⟨B0, ((a_one.a * a_other.b) - (a_other.a * a_one.b)), (a_one.b * a_other.b), w, rfl, (P.bind).mono (fun x37 P => ?_) (fun _ z => z)⟩
    refine fun v41 B38 H39 s40 r42 => ?_
    replace st := st.go s40 go0
    replace w := s40.ok
    exact P.ok _ _ _ st r42
theorem ok__law_times {f : Addr} {fd : FuncData}  (F : Fun K "_law_times" "_law_times" s__law_times f fd) {f__law_lowest : Addr} {d__law_lowest : FuncData} (g__law_lowest : mg "_law_lowest" = some (.ref f__law_lowest)) (k__law_lowest : PySem.W.keepIn K (.ref f__law_lowest) = true) (b__law_lowest : L2.Binds K d__law_lowest ["_law_top", "_law_bottom"] []) (G__law_lowest : FnOk Pr wo K mg base CX0 2 f__law_lowest d__law_lowest ["_law_top", "_law_bottom"] (sp__law_lowest K)) : FnOk Pr wo K mg base CX0 3 f fd ["_law_one", "_law_other"] (sp__law_times K) := by
  refine F.ok sc__law_times (fun vs H Q E h => ?_) (fun cdv A outer s H0 vs Q E hr h => ?_)
  · obtain ⟨_, _, _, _, _, _, rfl, _⟩ := h; rfl
  · obtain ⟨B0, v_one, a_one, v_other, a_other, w, rfl, r_one, r_other, P⟩ := h
    have w0 := w
    have hu := hu_of hr
    have hu64 := hu64_of hr
    have hr2 : Room 2 _ := hr.mono (by decide)
    refine ⟨_, (pss_one (ps_ret (pe_call G__law_lowest hr2 rfl g__law_lowest k__law_lowest b__law_lowest .nil pass0 (pa_cons (pe_op op_mulW (pe_ix (r := rIxT K) ix_tup (pv 0) pe_int (fun _ _ => rfl)) (pe_ix (r := rIxT K) ix_tup (pv 1) pe_int (fun _ _ => rfl))) (pa_cons (pe_op op_mulW (pe_ix (r := rIxT K) ix_tup (pv 0) pe_int (fun _ _ => rfl)) (pe_ix (r := rIxT K) ix_tup (pv 1) pe_int (fun _ _ => rfl))) pa_nil))))), ?_⟩
    unfold l_times at P
    have st := Stp.refl (W := []) w
    refine h_ret ?_
    refine h_call ?_
    refine h_cons ?_
    refine h_op ?_
    refine h_op ?_
    refine h_var rfl ?_
    refine h_c ?_
    obtain ⟨p1, xs2, rfl, hs3, hr4⟩ := Rep.st w (r_one.mono st.ex)
    obtain ⟨u5, hu, r6⟩ := RepL.at hr4 (i := 0) rfl
    refine h_ixT hs3 hu ?_
    cases r6
    refine h_op ?_
    refine h_var rfl ?_
    refine h_c ?_
    obtain ⟨p7, xs8, rfl, hs9, hr10⟩ := Rep.st w (r_other.mono st.ex)
    obtain ⟨u11, hu, r12⟩ := RepL.at hr10 (i := 0) rfl
    refine h_ixT hs9 hu ?_
    cases r12
    obtain ⟨gd, P⟩ := P.guard
    refine h_I gd ?_
    refine h_cons ?_
    refine h_op ?_
    refine h_op ?_
    refine h_var rfl ?_
    refine h_c ?_
    obtain ⟨p13, xs14, hv, hs15, hr16⟩ := Rep.st w (r_one.mono st.ex)
    cases hv
    obtain ⟨u17, hu, r18⟩ := RepL.at hr16 (i := 1) rfl
    refine h_ixT hs15 hu ?_
    cases r18
    refine h_op ?_
    refine h_var rfl ?_
    refine h_c ?_
    obtain ⟨p19, xs20, hv, hs21, hr22⟩ := Rep.st w (r_other.mono st.ex)
    cases hv
    obtain ⟨u23, hu, r24⟩ := RepL.at hr22 (i := 1) rfl
    refine h_ixT hs21 hu ?_
    cases r24
    obtain ⟨gd, P⟩ := P.guard
    refine h_I gd ?_
    refine h_nil ?_
    refine ⟨B0, (a_one.a * a_other.a), (a_one.b * a_other.b), w, rfl, (P.bind).mono (fun x25 P => ?_) (fun _ z => z)⟩
    refine fun v29 B26 H27 s28 r30 => ?_
    replace st := st.go s28 go0
    replace w := s28.ok
    exact P.ok _ _ _ st r30
theorem ok__law_less {f : Addr} {fd : FuncData}  (F : Fun K "_law_less" "_law_less" s__law_less f fd)  : FnOk Pr wo K mg base CX0 1 f fd ["_law_one", "_law_other"] (sp__law_less K) := by
  refine F.ok sc__law_less (fun vs H Q E h => ?_) (fun cdv A outer s H0 vs Q E hr h => ?_)
  · obtain ⟨_, _, _, _, _, _, rfl, _⟩ := h; rfl
  · obtain ⟨B0, v_one, a_one, v_other, a_other, w, rfl, r_one, r_other, P⟩ := h
    have w0 := w
    have hu := hu_of hr
    have hu64 := hu64_of hr
    refine ⟨_, (pss_one (ps_ret (pe_cmpR op_lt (pe_op op_mulW (pe_ix (r := rIxT K) ix_tup (pv 0) pe_int (fun _ _ => rfl)) (pe_ix (r := rIxT K) ix_tup (pv 1) pe_int (fun _ _ => rfl))) (pe_op op_mulW (pe_ix (r := rIxT K) ix_tup (pv 1) pe_int (fun _ _ => rfl)) (pe_ix (r := rIxT K) ix_tup (pv 0) pe_int (fun _ _ => rfl))) (nomark _)))), ?_⟩
    unfold l_less at P
    have st := Stp.refl (W := []) w
    refine h_ret ?_
    refine h_op ?_
    refine h_op ?_
    refine h_op ?_
    refine h_var rfl ?_
    refine h_c ?_
    obtain ⟨p1, xs2, rfl, hs3, hr4⟩ := Rep.st w (r_one.mono st.ex)
    obtain ⟨u5, hu, r6⟩ := RepL.at hr4 (i := 0) rfl
    refine h_ixT hs3 hu ?_
    cases r6
    refine h_op ?_
    refine h_var rfl ?_
    refine h_c ?_
    obtain ⟨p7, xs8, rfl, hs9, hr10⟩ := Rep.st w (r_other.mono st.ex)
    obtain ⟨u11, hu, r12⟩ := RepL.at hr10 (i := 1) rfl
    refine h_ixT hs9 hu ?_
    cases r12
    obtain ⟨gd, P⟩ := P.guard
    refine h_I gd ?_
    refine h_op ?_
    refine h_op ?_
    refine h_var rfl ?_
    refine h_c ?_
    obtain ⟨p13, xs14, hv, hs15, hr16⟩ := Rep.st w (r_other.mono st.ex)
    cases hv
    obtain ⟨u17, hu, r18⟩ := RepL.at hr16 (i := 0) rfl
    refine h_ixT hs15 hu ?_
    cases r18
    refine h_op ?_
    refine h_var rfl ?_
    refine h_c ?_
    obtain ⟨p19, xs20, hv, hs21, hr22⟩ := Rep.st w (r_one.mono st.ex)
    cases hv
    obtain ⟨u23, hu, r24⟩ := RepL.at hr22 (i := 1) rfl
    refine h_ixT hs21 hu ?_
    cases r24
    obtain ⟨gd, P⟩ := P.guard
    refine h_I gd ?_
    refine h_I0 ?_
    exact P.ok _ _ _ st (Rep.bl _)
theorem ok__law_amount {f : Addr} {fd : FuncData}  (F : Fun K "_law_amount" "_law_amount" s__law_amount f fd) {f__law_digit : Addr} {d__law_digit : FuncData} (g__law_digit : mg "_law_digit" = some (.ref f__law_digit)) (k__law_digit : PySem.W.keepIn K (.ref f__law_digit) = true) (b__law_digit : L2.Binds K d__law_digit ["_law_state", "_law_base"] []) (G__law_digit : FnOk Pr wo K mg base CX0 1 f__law_digit d__law_digit ["_law_state", "_law_base"] (sp__law_digit K)) {f__law_lowest : Addr} {d__law_lowest : FuncData} (g__law_lowest : mg "_law_lowest" = some (.ref f__law_lowest)) (k__law_lowest : PySem.W.keepIn K (.ref f__law_lowest) = true) (b__law_lowest : L2.Binds K d__law_lowest ["_law_top", "_law_bottom"] []) (G__law_lowest : FnOk Pr wo K mg base CX0 2 f__law_lowest d__law_lowest ["_law_top", "_law_bottom"] (sp__law_lowest K)) : FnOk Pr wo K mg base CX0 3 f fd ["_law_state"] (sp__law_amount K) := by
  refine F.ok sc__law_amount (fun vs H Q E h => ?_) (fun cdv A outer s H0 vs Q E hr h => ?_)
  · obtain ⟨_, _, _, _, rfl, _⟩ := h; rfl
  · obtain ⟨B0, p_state, a_state, w, rfl, m_state, P⟩ := h
    have w0 := w
    have hu := hu_of hr
    have hu64 := hu64_of hr
    have hr1 : Room 1 _ := hr.mono (by decide)
    have hr2 : Room 2 _ := hr.mono (by decide)
    refine ⟨_, (pss_cons (ps_set (i := 1) sc__law_amount.nd rfl (by first | exact Or.inl rfl | exact Or.inr rfl) (pe_call G__law_digit hr1 rfl g__law_digit k__law_digit b__law_digit .nil pass0 (pa_cons (pv 0) (pa_cons pe_int pa_nil))))
      (pss_cons (ps_set (i := 2) sc__law_amount.nd rfl (by first | exact Or.inl rfl | exact Or.inr rfl) (pe_call G__law_lowest hr2 rfl g__law_lowest k__law_lowest b__law_lowest .nil pass0 (pa_cons (pe_call G__law_digit hr1 rfl g__law_digit k__law_digit b__law_digit .nil pass0 (pa_cons (pv 0) (pa_cons pe_int pa_nil))) (pa_cons (pe_op op_add pe_int (pe_call G__law_digit hr1 rfl g__law_digit k__law_digit b__law_digit .nil pass0 (pa_cons (pv 0) (pa_cons pe_int pa_nil)))) pa_nil))))
      (pss_cons (ps_set (i := 3) sc__law_amount.nd rfl (by first | exact Or.inl rfl | exact Or.inr rfl) (pe_call G__law_lowest hr2 rfl g__law_lowest k__law_lowest b__law_lowest .nil pass0 (pa_cons (pe_op op_add (pe_op op_mul (pe_call G__law_digit hr1 rfl g__law_digit k__law_digit b__law_digit .nil pass0 (pa_cons (pv 0) (pa_cons (pe_op op_pow pe_int pe_int) pa_nil))) (pe_op op_pow pe_int pe_int)) (pe_call G__law_digit hr1 rfl g__law_digit k__law_digit b__law_digit .nil pass0 (pa_cons (pv 0) (pa_cons (pe_op op_pow pe_int pe_int) pa_nil)))) (pa_cons pe_int pa_nil))))
      (pss_cons (ps_set (i := 4) sc__law_amount.nd rfl (by first | exact Or.inl rfl | exact Or.inr rfl) (pe_call G__law_lowest hr2 rfl g__law_lowest k__law_lowest b__law_lowest .nil pass0 (pa_cons (pe_call G__law_digit hr1 rfl g__law_digit k__law_digit b__law_digit .nil pass0 (pa_cons (pv 0) (pa_cons (pe_op op_pow pe_int pe_int) pa_nil))) (pa_cons pe_int pa_nil))))
      (pss_one (ps_ret (pe_ix (r := rIxL K) ix_list (pe_lst (pa_cons (pv 2) (pa_cons (pv 2) (pa_cons (pe_tup (pa_cons (pe_call G__law_digit hr1 rfl g__law_digit k__law_digit b__law_digit .nil pass0 (pa_cons (pv 0) (pa_cons pe_int pa_nil))) (pa_cons pe_int pa_nil))) (pa_cons (pe_tup (pa_cons pe_int (pa_cons pe_int pa_nil))) (pa_cons (pv 2) (pa_cons (pv 4) (pa_cons (pv 3) pa_nil)))))))) (pv 1) (fun _ _ => rfl)))))))), ?_⟩
    unfold l_amount at P
    have st := Stp.refl (W := [p_state]) w
    refine h_set ?_
    refine h_call ?_
    refine h_cons ?_
    refine h_var rfl ?_
    refine h_cons ?_
    refine h_c ?_
    refine h_nil ?_
    refine ⟨B0, p_state, a_state, 7, w, rfl, m_state, (P.bind).mono (fun x1 P => ?_) (fun _ z => z)⟩
    refine fun v5 B2 H3 s4 m_state r6 => ?_
    replace st := st.go s4 (go1 (.inl (by simp)))
    replace w := s4.ok
    cases r6
    refine h_set ?_
    refine h_call ?_
    refine h_cons ?_
    refine h_call ?_
    refine h_cons ?_
    refine h_var rfl ?_
    refine h_cons ?_
    refine h_c ?_
    refine h_nil ?_
    refine ⟨B2, p_state, x1.2, 13, w, rfl, m_state, (P.bind).mono (fun x7 P => ?_) (fun _ z => z)⟩
    refine fun v11 B8 H9 s10 m_state r12 => ?_
    replace st := st.go s10 (go1 (.inl (by simp)))
    replace w := s10.ok
    cases r12
    refine h_cons ?_
    refine h_op ?_
    refine h_c ?_
    refine h_call ?_
    refine h_cons ?_
    refine h_var rfl ?_
    refine h_cons ?_
    refine h_c ?_
    refine h_nil ?_
    refine ⟨B8, p_state, x7.2, 4, w, rfl, m_state, (P.bind).mono (fun x13 P => ?_) (fun _ z => z)⟩
    refine fun v17 B14 H15 s16 m_state r18 => ?_
    replace st := st.go s16 (go1 (.inl (by simp)))
    replace w := s16.ok
    cases r18
    refine h_I0 ?_
    refine h_nil ?_
    refine ⟨B14, x7.1, (1 + x13.1), w, rfl, (P.bind).mono (fun x19 P => ?_) (fun _ z => z)⟩
    refine fun v23 B20 H21 s22 r24 => ?_
    replace m_state := m_state.step s22 nm0
    replace st := st.go s22 go0
    replace w := s22.ok
    refine h_set ?_
    refine h_call ?_
    refine h_cons ?_
    refine h_op ?_
    refine h_op ?_
    refine h_call ?_
    refine h_cons ?_
    refine h_var rfl ?_
    refine h_cons ?_
    refine h_op (h_c (h_c (h_pow (k := 1000000000) (by decide +kernel) (by decide +kernel) ?_)))
    refine h_nil ?_
    refine ⟨B20, p_state, x13.2, 1000000000, w, rfl, m_state, (P.bind).mono (fun x25 P => ?_) (fun _ z => z)⟩
    refine fun v29 B26 H27 s28 m_state r30 => ?_
    replace r24 := r24.mono s28.ex
    replace st := st.go s28 (go1 (.inl (by simp)))
    replace w := s28.ok
    cases r30
    refine h_op (h_c (h_c (h_pow (k := 1000000) (by decide +kernel) (by decide +kernel) ?_)))
    refine h_I (.inr ⟨by decide +kernel, by decide +kernel⟩) ?_
    refine h_call ?_
    refine h_cons ?_
    refine h_var rfl ?_
    refine h_cons ?_
    refine h_op (h_c (h_c (h_pow (k := 1000000) (by decide +kernel) (by decide +kernel) ?_)))
    refine h_nil ?_
    refine ⟨B26, p_state, x25.2, 1000000, w, rfl, m_state, (P.bind).mono (fun x31 P => ?_) (fun _ z => z)⟩
    refine fun v35 B32 H33 s34 m_state r36 => ?_
    replace r24 := r24.mono s34.ex
    replace st := st.go s34 (go1 (.inl (by simp)))
    replace w := s34.ok
    cases r36
    refine h_I0 ?_
    refine h_cons ?_
    refine h_c ?_
    refine h_nil ?_
    refine ⟨B32, ((x25.1 * 1000000) + x31.1), 1000003, w, rfl, (P.bind).mono (fun x37 P => ?_) (fun _ z => z)⟩
    refine fun v41 B38 H39 s40 r42 => ?_
    replace m_state := m_state.step s40 nm0
    replace r24 := r24.mono s40.ex
    replace st := st.go s40 go0
    replace w := s40.ok
    refine h_set ?_
    refine h_call ?_
    refine h_cons ?_
    refine h_call ?_
    refine h_cons ?_
    refine h_var rfl ?_
    refine h_cons ?_
    refine h_op (h_c (h_c (h_pow (k := 1000000000) (by decide +kernel) (by decide +kernel) ?_)))
    refine h_nil ?_
    refine ⟨B38, p_state, x31.2, 1000000000, w, rfl, m_state, (P.bind).mono (fun x43 P => ?_) (fun _ z => z)⟩
    refine fun v47 B44 H45 s46 m_state r48 => ?_
    replace r24 := r24.mono s46.ex
    replace r42 := r42.mono s46.ex
    replace st := st.go s46 (go1 (.inl (by simp)))
    replace w := s46.ok
    cases r48
    refine h_cons ?_
    refine h_c ?_
    refine h_nil ?_
    refine ⟨B44, x43.1, 997, w, rfl, (P.bind).mono (fun x49 P => ?_) (fun _ z => z)⟩
    refine fun v53 B50 H51 s52 r54 => ?_
    replace m_state := m_state.step s52 nm0
    replace r24 := r24.mono s52.ex
    replace r42 := r42.mono s52.ex
    replace st := st.go s52 go0
    replace w := s52.ok
    refine h_ret ?_
    refine h_op ?_
    refine h_lst ?_
    refine h_cons ?_
    refine h_var rfl ?_
    refine h_cons ?_
    refine h_var rfl ?_
    refine h_cons ?_
    refine h_tup ?_
    refine h_cons ?_
    refine h_call ?_
    refine h_cons ?_
    refine h_var rfl ?_
    refine h_cons ?_
    refine h_c ?_
    refine h_nil ?_
    refine ⟨B50, p_state, x43.2, 7, w, rfl, m_state, (P.bind).mono (fun x55 P => ?_) (fun _ z => z)⟩
    refine fun v59 B56 H57 s58 m_state r60 => ?_
    replace r24 := r24.mono s58.ex
    replace r42 := r42.mono s58.ex
    replace r54 := r54.mono s58.ex
    replace st := st.go s58 (go1 (.inl (by simp)))
    replace w := s58.ok
    cases r60
    refine h_cons ?_
    refine h_c ?_
    refine h_nil ?_
    refine h_newT w (K := K) (.cons (Rep.int _) (.cons (Rep.int _) .nil)) (fun p61 B62 H63 s64 r65 => ?_) (by show 2 ≤ sizeLine; decide)
    replace m_state := m_state.step s64 nm0
    replace r24 := r24.mono s64.ex
    replace r42 := r42.mono s64.ex
    replace r54 := r54.mono s64.ex
    replace st := st.go s64 go0
    replace w := s64.ok
    replace r65 : Rep K B62 (.ref p61) (enc (⟨x55.1, 1⟩ : (Tp2 Int Int))) := r65
    refine h_cons ?_
    refine h_tup ?_
    refine h_cons ?_
    refine h_c ?_
    refine h_cons ?_
    refine h_c ?_
    refine h_nil ?_
    refine h_newT w (K := K) (.cons (Rep.int _) (.cons (Rep.int _) .nil)) (fun p66 B67 H68 s69 r70 => ?_) (by show 2 ≤ sizeLine; decide)
    replace m_state := m_state.step s69 nm0
    replace r24 := r24.mono s69.ex
    replace r42 := r42.mono s69.ex
    replace r54 := r54.mono s69.ex
    replace r65 := r65.mono s69.ex
    replace st := st.go s69 go0
    replace w := s69.ok
    replace r70 : Rep K B67 (.ref p66) (enc (⟨0, 1⟩ : (Tp2 Int Int))) := r70
    refine h_cons ?_
    refine h_var rfl ?_
    refine h_cons ?_
    refine h_var rfl ?_
    refine h_cons ?_
    refine h_var rfl ?_
    refine h_nil ?_
    refine h_newL w (ds := (([x19, x19, (⟨x55.1, 1⟩ : (Tp2 Int Int)), (⟨0, 1⟩ : (Tp2 Int Int)), x19, x49, x37] : List (Tp2 Int Int))).map enc) (K := K) (.cons r24 (.cons r24 (.cons r65 (.cons r70 (.cons r24 (.cons r54 (.cons r42 .nil))))))) (fun p71 B72 H73 s74 r75 => ?_) (by show 7 ≤ sizeLine; decide)
    replace m_state := m_state.step s74 nm0
    replace r24 := r24.mono s74.ex
    replace r42 := r42.mono s74.ex
    replace r54 := r54.mono s74.ex
    replace st := st.go s74 go0
    replace w := s74.ok
    replace r75 : Rep K B72 (.ref p71) (enc ([x19, x19, (⟨x55.1, 1⟩ : (Tp2 Int Int)), (⟨0, 1⟩ : (Tp2 Int Int)), x19, x49, x37] : List (Tp2 Int Int))) := r75
    refine h_var rfl ?_
    obtain ⟨p76, xs77, hv, hs78, hr79⟩ := Rep.sq w r75
    cases hv
    obtain ⟨x80, hx81, P⟩ := P.ix
    obtain ⟨u82, hu, r83⟩ := RepL.atE hr79 hx81
    refine h_ixL hs78 hu ?_
    exact P.ok _ _ _ st m_state r83
theorem ok__law_edit {f : Addr} {fd : FuncData}  (F : Fun K "_law_edit" "_law_edit" s__law_edit f fd) {f__law_digit : Addr} {d__law_digit : FuncData} (g__law_digit : mg "_law_digit" = some (.ref f__law_digit)) (k__law_digit : PySem.W.keepIn K (.ref f__law_digit) = true) (b__law_digit : L2.Binds K d__law_digit ["_law_state", "_law_base"] []) (G__law_digit : FnOk Pr wo K mg base CX0 1 f__law_digit d__law_digit ["_law_state", "_law_base"] (sp__law_digit K)) {f__law_plus : Addr} {d__law_plus : FuncData} (g__law_plus : mg "_law_plus" = some (.ref f__law_plus)) (k__law_plus : PySem.W.keepIn K (.ref f__law_plus) = true) (b__law_plus : L2.Binds K d__law_plus ["_law_one", "_law_other"] []) (G__law_plus : FnOk Pr wo K mg base CX0 3 f__law_plus d__law_plus ["_law_one", "_law_other"] (sp__law_plus K)) {f__law_amount : Addr} {d__law_amount : FuncData} (g__law_amount : mg "_law_amount" = some (.ref f__law_amount)) (k__law_amount : PySem.W.keepIn K (.ref f__law_amount) = true) (b__law_amount : L2.Binds K d__law_amount ["_law_state"] []) (G__law_amount : FnOk Pr wo K mg base CX0 3 f__law_amount d__law_amount ["_law_state"] (sp__law_amount K)) {f__law_lowest : Addr} {d__law_lowest : FuncData} (g__law_lowest : mg "_law_lowest" = some (.ref f__law_lowest)) (k__law_lowest : PySem.W.keepIn K (.ref f__law_lowest) = true) (b__law_lowest : L2.Binds K d__law_lowest ["_law_top", "_law_bottom"] []) (G__law_lowest : FnOk Pr wo K mg base CX0 2 f__law_lowest d__law_lowest ["_law_top", "_law_bottom"] (sp__law_lowest K)) {f__law_times : Addr} {d__law_times : FuncData} (g__law_times : mg "_law_times" = some (.ref f__law_times)) (k__law_times : PySem.W.keepIn K (.ref f__law_times) = true) (b__law_times : L2.Binds K d__law_times ["_law_one", "_law_other"] []) (G__law_times : FnOk Pr wo K mg base CX0 3 f__law_times d__law_times ["_law_one", "_law_other"] (sp__law_times K)) : FnOk Pr wo K mg base CX0 4 f fd ["_law_state", "_law_ahead"] (sp__law_edit K) := by
  refine F.ok sc__law_edit (fun vs H Q E h => ?_) (fun cdv A outer s H0 vs Q E hr h => ?_)
  · obtain ⟨_, _, _, _, _, _, rfl, _⟩ := h; rfl
  · obtain ⟨B0, p_state, a_state, v_ahead, a_ahead, w, rfl, m_state, r_ahead, P⟩ := h
    have w0 := w
    have hu := hu_of hr
    have hu64 := hu64_of hr
    have hr1 : Room 1 _ := hr.mono (by decide)
    have hr2 : Room 2 _ := hr.mono (by decide)
    have hr3 : Room 3 _ := hr.mono (by decide)
    refine ⟨_, (pss_cons (ps_set (i := 2) sc__law_edit.nd rfl (by first | exact Or.inl rfl | exact Or.inr rfl) (pe_call G__law_digit hr1 rfl g__law_digit k__law_digit b__law_digit .nil pass0 (pa_cons (pv 0) (pa_cons pe_int pa_nil))))
      (pss_cons (ps_set (i := 3) sc__law_edit.nd rfl (by first | exact Or.inl rfl | exact Or.inr rfl) (pe_call G__law_plus hr3 rfl g__law_plus k__law_plus b__law_plus .nil pass0 (pa_cons (pe_call G__law_amount hr3 rfl g__law_amount k__law_amount b__law_amount .nil pass0 (pa_cons (pv 0) pa_nil)) (pa_cons (pe_call G__law_lowest hr2 rfl g__law_lowest k__law_lowest b__law_lowest .nil pass0 (pa_cons pe_int (pa_cons (pe_op op_add pe_int (pe_call G__law_digit hr1 rfl g__law_digit k__law_digit b__law_digit .nil pass0 (pa_cons (pv 0) (pa_cons pe_int pa_nil)))) pa_nil))) pa_nil))))
      (pss_cons (ps_set (i := 4) sc__law_edit.nd rfl (by first | exact Or.inl rfl | exact Or.inr rfl) (pe_call G__law_amount hr3 rfl g__law_amount k__law_amount b__law_amount .nil pass0 (pa_cons (pv 0) pa_nil)))
      (pss_cons (ps_set (i := 5) sc__law_edit.nd rfl (by first | exact Or.inl rfl | exact Or.inr rfl) (pe_ix (r := rIxL K) ix_list (pe_lst (pa_cons (pe_tup (pa_cons pe_int (pa_cons pe_int pa_nil))) (pa_cons (pe_tup (pa_cons pe_int (pa_cons pe_int pa_nil))) (pa_cons (pe_tup (pa_cons pe_int (pa_cons pe_int pa_nil))) (pa_cons (pe_tup (pa_cons pe_int (pa_cons pe_int pa_nil))) (pa_cons (pe_tup (pa_cons pe_int (pa_cons pe_int pa_nil))) (pa_cons (pe_call G__law_amount hr3 rfl g__law_amount k__law_amount b__law_amount .nil pass0 (pa_cons (pv 0) pa_nil)) pa_nil))))))) (pe_call G__law_digit hr1 rfl g__law_digit k__law_digit b__law_digit .nil pass0 (pa_cons (pv 0) (pa_cons pe_int pa_nil))) (fun _ _ => rfl)))
      (pss_cons (ps_if (pt_cmpR op_eq (pv 2) pe_int (nomark _)) (pss_one (ps_ret (pe_tup (pa_cons (pv 3) (pa_cons pe_non (pa_cons (pe_tup (pa_cons pe_int (pa_cons pe_int pa_nil))) pa_nil)))))) pss_nil)
      (pss_cons (ps_if (PW.pt (pw_and (pt_cmpR op_lt (pv 2) pe_int (nomark _)) (pw_and (pt_cmpR (r := rNeD K) (op_neD hu64) (pv 1) (pe_lst pa_nil) (nomark _)) (pw_and1 (pt_cmpR op_notNn (pe_ix (r := rIxT K) ix_tup (pe_ix (r := rIxL K) ix_list (pv 1) (pe_un un_neg pe_int) (fun _ _ => rfl)) pe_int (fun _ _ => rfl)) pe_non (nomark _)))))) (pss_cons (ps_set (i := 6) sc__law_edit.nd rfl (by first | exact Or.inl rfl | exact Or.inr rfl) (pe_ix (r := rIxL K) ix_list (pv 1) (pe_un un_neg pe_int) (fun _ _ => rfl)))
      (pss_one (ps_ret (pe_tup (pa_cons (pv 3) (pa_cons (pe_call G__law_plus hr3 rfl g__law_plus k__law_plus b__law_plus .nil pass0 (pa_cons (pe_ix (r := rIxT K) ix_tup (pv 6) pe_int (fun _ _ => rfl)) (pa_cons (pe_call G__law_times hr3 rfl g__law_times k__law_times b__law_times .nil pass0 (pa_cons (pe_ix (r := rIxT K) ix_tup (pv 6) pe_int (fun _ _ => rfl)) (pa_cons (pe_ix (r := rIxT K) ix_tup (pv 6) pe_int (fun _ _ => rfl)) pa_nil))) pa_nil))) (pa_cons (pe_ix (r := rIxT K) ix_tup (pv 6) pe_int (fun _ _ => rfl)) pa_nil))))))) pss_nil)
      (pss_one (ps_ret (pe_tup (pa_cons (pv 3) (pa_cons (pv 4) (pa_cons (pv 5) pa_nil)))))))))))), ?_⟩
    unfold l_edit at P
    have st := Stp.refl (W := [p_state]) w
    refine h_set ?_
    refine h_call ?_
    refine h_cons ?_
    refine h_var rfl ?_
    refine h_cons ?_
    refine h_c ?_
    refine h_nil ?_
    refine ⟨B0, p_state, a_state, 7, w, rfl, m_state, (P.bind).mono (fun x1 P => ?_) (fun _ z => z)⟩
    refine fun v5 B2 H3 s4 m_state r6 => ?_
    replace st := st.go s4 (go1 (.inl (by simp)))
    replace w := s4.ok
    cases r6
    refine h_set ?_
    refine h_call ?_
    refine h_cons ?_
    refine h_call ?_
    refine h_cons ?_
    refine h_var rfl ?_
    refine h_nil ?_
    refine ⟨B2, p_state, x1.2, w, rfl, m_state, (P.bind).mono (fun x7 P => ?_) (fun _ z => z)⟩
    refine fun v11 B8 H9 s10 m_state r12 => ?_
    replace st := st.go s10 (go1 (.inl (by simp)))
    replace w := s10.ok
    refine h_cons ?_
    refine h_call ?_
    refine h_cons ?_
    refine h_c ?_
    refine h_cons ?_
    refine h_op ?_
    refine h_c ?_
    refine h_call ?_
    refine h_cons ?_
    refine h_var rfl ?_
    refine h_cons ?_
    refine h_c ?_
    refine h_nil ?_
    refine ⟨B8, p_state, x7.2, 3, w, rfl, m_state, (P.bind).mono (fun x13 P => ?_) (fun _ z => z)⟩
    refine fun v17 B14 H15 s16 m_state r18 => ?_
    replace r12 := r12.mono s16.ex
    replace st := st.go s16 (go1 (.inl (by simp)))
    replace w := s16.ok
    cases r18
    refine h_I0 ?_
    refine h_nil ?_
    refine ⟨B14, 1, (1 + x13.1), w, rfl, (P.bind).mono (fun x19 P => ?_) (fun _ z => z)⟩
    refine fun v23 B20 H21 s22 r24 => ?_
    replace m_state := m_state.step s22 nm0
    replace r12 := r12.mono s22.ex
    replace st := st.go s22 go0
    replace w := s22.ok
    refine h_nil ?_
    refine ⟨B20, v11, x7.1, v23, x19, w, rfl, r12, r24, (P.bind).mono (fun x25 P => ?_) (fun _ z => z)⟩
    refine fun v29 B26 H27 s28 r30 => ?_
    replace m_state := m_state.step s28 nm0
    replace r12 := r12.mono s28.ex
    replace r24 := r24.mono s28.ex
    replace st := st.go s28 go0
    replace w := s28.ok
    refine h_set ?_
    refine h_call ?_
    refine h_cons ?_
    refine h_var rfl ?_
    refine h_nil ?_
    refine ⟨B26, p_state, x13.2, w, rfl, m_state, (P.bind).mono (fun x31 P => ?_) (fun _ z => z)⟩
    refine fun v35 B32 H33 s34 m_state r36 => ?_
    replace r30 := r30.mono s34.ex
    replace st := st.go s34 (go1 (.inl (by simp)))
    replace w := s34.ok
    refine h_set ?_
    refine h_op ?_
    refine h_lst ?_
    refine h_cons ?_
    refine h_tup ?_
    refine h_cons ?_
    refine h_c ?_
    refine h_cons ?_
    refine h_c ?_
    refine h_nil ?_
    refine h_newT w (K := K) (.cons (Rep.int _) (.cons (Rep.int _) .nil)) (fun p37 B38 H39 s40 r41 => ?_) (by show 2 ≤ sizeLine; decide)
    replace m_state := m_state.step s40 nm0
    replace r30 := r30.mono s40.ex
    replace r36 := r36.mono s40.ex
    replace st := st.go s40 go0
    replace w := s40.ok
    replace r41 : Rep K B38 (.ref p37) (enc (⟨1, 1⟩ : (Tp2 Int Int))) := r41
    refine h_cons ?_
    refine h_tup ?_
    refine h_cons ?_
    refine h_c ?_
    refine h_cons ?_
    refine h_c ?_
    refine h_nil ?_
    refine h_newT w (K := K) (.cons (Rep.int _) (.cons (Rep.int _) .nil)) (fun p42 B43 H44 s45 r46 => ?_) (by show 2 ≤ sizeLine; decide)
    replace m_state := m_state.step s45 nm0
    replace r30 := r30.mono s45.ex
    replace r36 := r36.mono s45.ex
    replace r41 := r41.mono s45.ex
    replace st := st.go s45 go0
    replace w := s45.ok
    replace r46 : Rep K B43 (.ref p42) (enc (⟨1, 1⟩ : (Tp2 Int Int))) := r46
    refine h_cons ?_
    refine h_tup ?_
    refine h_cons ?_
    refine h_c ?_
    refine h_cons ?_
    refine h_c ?_
    refine h_nil ?_
    refine h_newT w (K := K) (.cons (Rep.int _) (.cons (Rep.int _) .nil)) (fun p47 B48 H49 s50 r51 => ?_) (by show 2 ≤ sizeLine; decide)
    replace m_state := m_state.step s50 nm0
    replace r30 := r30.mono s50.ex
    replace r36 := r36.mono s50.ex
    replace r41 := r41.mono s50.ex
    replace r46 := r46.mono s50.ex
    replace st := st.go s50 go0
    replace w := s50.ok
    replace r51 : Rep K B48 (.ref p47) (enc (⟨0, 1⟩ : (Tp2 Int Int))) := r51
    refine h_cons ?_
    refine h_tup ?_
    refine h_cons ?_
    refine h_c ?_
    refine h_cons ?_
    refine h_c ?_
    refine h_nil ?_
    refine h_newT w (K := K) (.cons (Rep.int _) (.cons (Rep.int _) .nil)) (fun p52 B53 H54 s55 r56 => ?_) (by show 2 ≤ sizeLine; decide)
    replace m_state := m_state.step s55 nm0
    replace r30 := r30.mono s55.ex
    replace r36 := r36.mono s55.ex
    replace r41 := r41.mono s55.ex
    replace r46 := r46.mono s55.ex
    replace r51 := r51.mono s55.ex
    replace st := st.go s55 go0
    replace w := s55.ok
    replace r56 : Rep K B53 (.ref p52) (enc (⟨2, 1⟩ : (Tp2 Int Int))) := r56
    refine h_cons ?_
    refine h_tup ?_
    refine h_cons ?_
    refine h_c ?_
    refine h_cons ?_
    refine h_c ?_
    refine h_nil ?_
    refine h_newT w (K := K) (.cons (Rep.int _) (.cons (Rep.int _) .nil)) (fun p57 B58 H59 s60 r61 => ?_) (by show 2 ≤ sizeLine; decide)
    replace m_state := m_state.step s60 nm0
    replace r30 := r30.mono s60.ex
    replace r36 := r36.mono s60.ex
    replace r41 := r41.mono s60.ex
    replace r46 := r46.mono s60.ex
    replace r51 := r51.mono s60.ex
    replace r56 := r56.mono s60.ex
    replace st := st.go s60 go0
    replace w := s60.ok
    replace r61 : Rep K B58 (.ref p57) (enc (⟨1, 2⟩ : (Tp2 Int Int))) := r61
    refine h_cons ?_
    refine h_call ?_
    refine h_cons ?_
    refine h_var rfl ?_
    refine h_nil ?_
    refine ⟨B58, p_state, x31.2, w, rfl, m_state, (P.bind).mono (fun x62 P => ?_) (fun _ z => z)⟩
    refine fun v66 B63 H64 s65 m_state r67 => ?_
    replace r30 := r30.mono s65.ex
    replace r36 := r36.mono s65.ex
    replace r41 := r41.mono s65.ex
    replace r46 := r46.mono s65.ex
    replace r51 := r51.mono s65.ex
    replace r56 := r56.mono s65.ex
    replace r61 := r61.mono s65.ex
    replace st := st.go s65 (go1 (.inl (by simp)))
    replace w := s65.ok
    refine h_nil ?_
    refine h_newL w (ds := (([(⟨1, 1⟩ : (Tp2 Int Int)), (⟨1, 1⟩ : (Tp2 Int Int)), (⟨0, 1⟩ : (Tp2 Int Int)), (⟨2, 1⟩ : (Tp2 Int Int)), (⟨1, 2⟩ : (Tp2 Int Int)), x62.1] : List (Tp2 Int Int))).map enc) (K := K) (.cons r41 (.cons r46 (.cons r51 (.cons r56 (.cons r61 (.cons r67 .nil)))))) (fun p68 B69 H70 s71 r72 => ?_) (by show 6 ≤ sizeLine; decide)
    replace m_state := m_state.step s71 nm0
    replace r30 := r30.mono s71.ex
    replace r36 := r36.mono s71.ex
    replace st := st.go s71 go0
    replace w := s71.ok
    replace r72 : Rep K B69 (.ref p68) (enc ([(⟨1, 1⟩ : (Tp2 Int Int)), (⟨1, 1⟩ : (Tp2 Int Int)), (⟨0, 1⟩ : (Tp2 Int Int)), (⟨2, 1⟩ : (Tp2 Int Int)), (⟨1, 2⟩ : (Tp2 Int Int)), x62.1] : List (Tp2 Int Int))) := r72
    refine h_call ?_
    refine h_cons ?_
    refine h_var rfl ?_
    refine h_cons ?_
    refine h_c ?_
    refine h_nil ?_
    refine ⟨B69, p_state, x62.2, 6, w, rfl, m_state, (P.bind).mono (fun x73 P => ?_) (fun _ z => z)⟩
    refine fun v77 B74 H75 s76 m_state r78 => ?_
    replace r30 := r30.mono s76.ex
    replace r36 := r36.mono s76.ex
    replace r72 := r72.mono s76.ex
    replace st := st.go s76 (go1 (.inl (by simp)))
    replace w := s76.ok
    cases r78
    obtain ⟨p79, xs80, hv, hs81, hr82⟩ := Rep.sq w r72
    cases hv
    obtain ⟨x83, hx84, P⟩ := P.ix
    obtain ⟨u85, hu, r86⟩ := RepL.atE hr82 hx84
    refine h_ixL hs81 hu ?_
    refine h_seq <| h_if ?_
    refine h_test ?_
    refine h_op ?_
    refine h_var rfl ?_
    refine h_c ?_
    refine h_eqI ?_
    refine h_bl ?_
    refine h_ite (fun c1 => ?_) (fun c1 => ?_)
    · replace P := P.iteT c1
      refine h_ret ?_
      refine h_tup ?_
      refine h_cons ?_
      refine h_var rfl ?_
      refine h_cons ?_
      refine h_c ?_
      refine h_cons ?_
      refine h_tup ?_
      refine h_cons ?_
      refine h_c ?_
      refine h_cons ?_
      refine h_c ?_
      refine h_nil ?_
      refine h_newT w (K := K) (.cons (Rep.int _) (.cons (Rep.int _) .nil)) (fun p87 B88 H89 s90 r91 => ?_) (by show 2 ≤ sizeLine; decide)
      replace m_state := m_state.step s90 nm0
      replace r30 := r30.mono s90.ex
      replace r36 := r36.mono s90.ex
      replace r86 := r86.mono s90.ex
      replace st := st.go s90 go0
      replace w := s90.ok
      replace r91 : Rep K B88 (.ref p87) (enc (⟨0, 1⟩ : (Tp2 Int Int))) := r91
      refine h_nil ?_
      refine h_newT w (K := K) (.cons r30 (.cons Rep.non (.cons r91 .nil))) (fun p92 B93 H94 s95 r96 => ?_) (by show 3 ≤ sizeLine; decide)
      replace m_state := m_state.step s95 nm0
      replace r30 := r30.mono s95.ex
      replace r36 := r36.mono s95.ex
      replace r86 := r86.mono s95.ex
      replace st := st.go s95 go0
      replace w := s95.ok
      replace r96 : Rep K B93 (.ref p92) (enc (⟨x25, (), (⟨0, 1⟩ : (Tp2 Int Int))⟩ : (Tp3 (Tp2 Int Int) Unit (Tp2 Int Int)))) := r96
      exact P.ok _ _ _ st m_state r96
    · replace P := P.iteF c1
      refine h_next ?_
      refine h_nx ?_
      refine h_seq <| h_if ?_
      have wj98 := w
      have sj97 := Stp.refl (W := []) w
      refine h_condJ P (fun H' => ∃ B', Stp [] B74 H75 B' H') (fun N kk99 P => ?_) ?_
      · skip
        refine h_tand ?_
        refine h_test ?_
        refine h_op ?_
        refine h_var rfl ?_
        refine h_c ?_
        refine h_I0 ?_
        refine h_bl ?_
        refine h_ite (fun c1 => ?_) (fun c1 => ?_)
        · replace P := P.iteT c1
          refine h_tand ?_
          refine h_test ?_
          refine h_op ?_
          refine h_var rfl ?_
          refine h_lst ?_
          refine h_nil ?_
          refine h_newL w (ds := (([] : List D)).map enc) (K := K) .nil (fun p100 B101 H102 s103 r104 => ?_) (by show 0 ≤ sizeLine; decide)
          replace m_state := m_state.step s103 nm0
          replace r30 := r30.mono s103.ex
          replace r36 := r36.mono s103.ex
          replace r86 := r86.mono s103.ex
          replace st := st.go s103 go0
          replace sj97 := sj97.go s103 go0
          replace w := s103.ok
          replace r104 : Rep K B101 (.ref p100) (enc ([] : List D)) := r104
          obtain ⟨gd, P⟩ := P.guard
          obtain ⟨p105, xs106, rfl, hs107, hr108⟩ := Bor.sq (r_ahead.step st)
          refine h_neC (d := (enc a_ahead)) (e := (enc ([] : List D))) (SqL.cp w hs107 hr108) (Rep.cp w r104) gd ?_
          refine h_bl ?_
          refine h_ite (fun c1 => ?_) (fun c1 => ?_)
          · replace P := P.iteT c1
            refine h_test ?_
            refine h_op ?_
            refine h_op ?_
            refine h_op ?_
            refine h_var rfl ?_
            refine h_un ?_
            refine h_c ?_
            refine h_U ?_
            obtain ⟨p109, xs110, hv, hs111, hr112⟩ := Bor.sq (r_ahead.step st)
            cases hv
            obtain ⟨x113, hx114, P⟩ := P.ix
            obtain ⟨u115, hu, r116⟩ := RepL.atE hr112 hx114
            refine h_ixL hs111 hu ?_
            refine h_c ?_
            obtain ⟨p117, xs118, rfl, hs119, hr120⟩ := Rep.st w r116
            obtain ⟨u121, hu, r122⟩ := RepL.at hr120 (i := 1) rfl
            refine h_ixT hs119 hu ?_
            refine h_c ?_
            refine h_notN r122 ?_
            refine h_bl ?_
            exact kk99 _ _ ⟨_, sj97⟩ P.ok
          · replace P := P.iteF c1
            exact kk99 _ _ ⟨_, sj97⟩ P.ok
        · replace P := P.iteF c1
          exact kk99 _ _ ⟨_, sj97⟩ P.ok
      rintro b123 H125 ⟨B124, s126⟩ P
      replace m_state := m_state.step s126 nm0
      replace r30 := r30.mono s126.ex
      replace r36 := r36.mono s126.ex
      replace r86 := r86.mono s126.ex
      replace st := st.go s126 go0
      replace w := s126.ok
      refine h_ite (fun c1 => ?_) (fun c1 => ?_)
      · replace P := P.iteT c1
        refine h_set ?_
        refine h_op ?_
        refine h_var rfl ?_
        refine h_un ?_
        refine h_c ?_
        refine h_U ?_
        obtain ⟨p127, xs128, rfl, hs129, hr130⟩ := Bor.sq (r_ahead.step st)
        obtain ⟨x131, hx132, P⟩ := P.ix
        obtain ⟨u133, hu, r134⟩ := RepL.atE hr130 hx132
        refine h_ixL hs129 hu ?_
        refine h_ret ?_
        refine h_tup ?_
        refine h_cons ?_
        refine h_var rfl ?_
        refine h_cons ?_
        refine h_call ?_
        refine h_cons ?_
        refine h_op ?_
        refine h_var rfl ?_
        refine h_c ?_
        obtain ⟨p135, xs136, rfl, hs137, hr138⟩ := Rep.st w r134
        obtain ⟨u139, hu, r140⟩ := RepL.at hr138 (i := 1) rfl
        refine h_ixT hs137 hu ?_
        refine h_cons ?_
        refine h_call ?_
        refine h_cons ?_
        refine h_op ?_
        refine h_var rfl ?_
        refine h_c ?_
        obtain ⟨p141, xs142, hv, hs143, hr144⟩ := Rep.st w r134
        cases hv
        obtain ⟨u145, hu, r146⟩ := RepL.at hr144 (i := 2) rfl
        refine h_ixT hs143 hu ?_
        refine h_cons ?_
        refine h_op ?_
        refine h_var rfl ?_
        refine h_c ?_
        obtain ⟨p147, xs148, hv, hs149, hr150⟩ := Rep.st w r134
        cases hv
        obtain ⟨u151, hu, r152⟩ := RepL.at hr150 (i := 0) rfl
        refine h_ixT hs149 hu ?_
        refine h_nil ?_
        refine ⟨B124, u145, x131.c, u151, x131.a, w, rfl, r146, r152, (P.bind).mono (fun x153 P => ?_) (fun _ z => z)⟩
        refine fun v157 B154 H155 s156 r158 => ?_
        replace m_state := m_state.step s156 nm0
        replace r30 := r30.mono s156.ex
        replace r36 := r36.mono s156.ex
        replace r86 := r86.mono s156.ex
        replace r134 := r134.mono s156.ex
        replace r140 := r140.mono s156.ex
        replace r146 := r146.mono s156.ex
        replace r152 := r152.mono s156.ex
        replace st := st.go s156 go0
        replace w := s156.ok
        refine h_nil ?_
        obtain ⟨x159, hx160, P⟩ := P.some
        have rc161 := r140
        rw [hx160] at rc161
        replace rc161 : Rep K B154 u139 (enc x159) := rc161
        refine ⟨B154, u139, x159, v157, x153, w, rfl, rc161, r158, (P.bind).mono (fun x162 P => ?_) (fun _ z => z)⟩
        refine fun v166 B163 H164 s165 r167 => ?_
        replace m_state := m_state.step s165 nm0
        replace r30 := r30.mono s165.ex
        replace r36 := r36.mono s165.ex
        replace r86 := r86.mono s165.ex
        replace r134 := r134.mono s165.ex
        replace r140 := r140.mono s165.ex
        replace r158 := r158.mono s165.ex
        replace st := st.go s165 go0
        replace w := s165.ok
        refine h_cons ?_
        refine h_op ?_
        refine h_var rfl ?_
        refine h_c ?_
        obtain ⟨p168, xs169, hv, hs170, hr171⟩ := Rep.st w r134
        cases hv
        obtain ⟨u172, hu, r173⟩ := RepL.at hr171 (i := 2) rfl
        refine h_ixT hs170 hu ?_
        refine h_nil ?_
        refine h_newT w (K := K) (.cons r30 (.cons r167 (.cons r173 .nil))) (fun p174 B175 H176 s177 r178 => ?_) (by show 3 ≤ sizeLine; decide)
        replace m_state := m_state.step s177 nm0
        replace r30 := r30.mono s177.ex
        replace r36 := r36.mono s177.ex
        replace r86 := r86.mono s177.ex
        replace r134 := r134.mono s177.ex
        replace st := st.go s177 go0
        replace w := s177.ok
        replace r178 : Rep K B175 (.ref p174) (enc (⟨x25, x162, x131.c⟩ : (Tp3 (Tp2 Int Int) (Tp2 Int Int) (Tp2 Int Int)))) := r178
        exact P.ok _ _ _ st m_state r178
      · replace P := P.iteF c1
        refine h_next ?_
        refine h_nx ?_
        refine h_ret ?_
        refine h_tup ?_
        refine h_cons ?_
        refine h_var rfl ?_
        refine h_cons ?_
        refine h_var rfl ?_
        refine h_cons ?_
        refine h_var rfl ?_
        refine h_nil ?_
        refine h_newT w (K := K) (.cons r30 (.cons r36 (.cons r86 .nil))) (fun p179 B180 H181 s182 r183 => ?_) (by show 3 ≤ sizeLine; decide)
        replace m_state := m_state.step s182 nm0
        replace r30 := r30.mono s182.ex
        replace r36 := r36.mono s182.ex
        replace r86 := r86.mono s182.ex
        replace st := st.go s182 go0
        replace w := s182.ok
        replace r183 : Rep K B180 (.ref p179) (enc (⟨x25, x31.1, x83⟩ : (Tp3 (Tp2 Int Int) (Tp2 Int Int) (Tp2 Int Int)))) := r183
        exact P.ok _ _ _ st m_state r183
theorem ok__law_edits {f : Addr} {fd : FuncData}  (F : Fun K "_law_edits" "_law_edits" s__law_edits f fd) {f__law_digit : Addr} {d__law_digit : FuncData} (g__law_digit : mg "_law_digit" = some (.ref f__law_digit)) (k__law_digit : PySem.W.keepIn K (.ref f__law_digit) = true) (b__law_digit : L2.Binds K d__law_digit ["_law_state", "_law_base"] []) (G__law_digit : FnOk Pr wo K mg base CX0 1 f__law_digit d__law_digit ["_law_state", "_law_base"] (sp__law_digit K)) {f__law_edit : Addr} {d__law_edit : FuncData} (g__law_edit : mg "_law_edit" = some (.ref f__law_edit)) (k__law_edit : PySem.W.keepIn K (.ref f__law_edit) = true) (b__law_edit : L2.Binds K d__law_edit ["_law_state", "_law_ahead"] []) (G__law_edit : FnOk Pr wo K mg base CX0 4 f__law_edit d__law_edit ["_law_state", "_law_ahead"] (sp__law_edit K)) (bI_range : mg "range" = none) : FnOk Pr wo K mg base CX0 5 f fd ["_law_state", "_law_few"] (sp__law_edits K) := by
  refine F.ok sc__law_edits (fun vs H Q E h => ?_) (fun cdv A outer s H0 vs Q E hr h => ?_)
  · obtain ⟨_, _, _, _, _, rfl, _⟩ := h; rfl
  · obtain ⟨B0, p_state, a_state, a_few, w, rfl, m_state, P⟩ := h
    have w0 := w
    have hu := hu_of hr
    have hu64 := hu64_of hr
    have hr1 : Room 1 _ := hr.mono (by decide)
    have hr4 : Room 4 _ := hr.mono (by decide)
    refine ⟨_, (pss_cons (ps_set (i := 2) sc__law_edits.nd rfl (by first | exact Or.inl rfl | exact Or.inr rfl) (pe_lst pa_nil))
      (pss_cons (ps_for PassesOwn.never rfl (pi_range1 (by rfl) bI_range (pa_cons (pe_call G__law_digit hr1 rfl g__law_digit k__law_digit b__law_digit .nil pass0 (pa_cons (pv 0) (pa_cons (pe_op op_add (pv 1) pe_int) pa_nil))) pa_nil)) (pg_name (i := 3) sc__law_edits.nd rfl (by first | exact Or.inl rfl | exact Or.inr rfl)) (pss_one (ps_expr (pe_bm PySem.F.plainAttrs_list PySem.F.slot_list_append PySem.F.type_list_append mt_append (pv 2) (pa_cons (pe_call G__law_edit hr4 rfl g__law_edit k__law_edit b__law_edit .nil pass0 (pa_cons (pv 0) (pa_cons (pv 2) pa_nil))) pa_nil)))))
      (pss_one (ps_ret (pv 2))))), ?_⟩
    unfold l_edits at P
    have st := Stp.refl (W := [p_state]) w
    refine h_set ?_
    refine h_lst ?_
    refine h_nil ?_
    refine h_newM w (ds := (([] : List (Tp3 (Tp2 Int Int) (Option (Tp2 Int Int)) (Tp2 Int Int)))).map enc) (K := K) .nil (fun p1 H2 hn5 s3 m4 => ?_) (by show 0 ≤ sizeLine; decide)
    have n6 := st.nn hn5
    have ne7 := Mu.ne m_state hn5
    replace m_state := m_state.step s3 nm0
    replace st := st.go s3 go0
    replace w := s3.ok
    refine h_seq ?_
    refine h_rng1 ?_
    refine h_cons ?_
    refine h_call ?_
    refine h_cons ?_
    refine h_var rfl ?_
    refine h_cons ?_
    refine h_op ?_
    refine h_var rfl ?_
    refine h_c ?_
    refine h_I0 ?_
    refine h_nil ?_
    refine ⟨B0, p_state, a_state, (a_few + 1), w, rfl, m_state, (P.bind).mono (fun x8 P => ?_) (fun _ z => z)⟩
    refine fun v12 B9 H10 s11 m_state r13 => ?_
    replace m4 := m4.step s11 (nm1 ne7.symm)
    replace st := st.go s11 (go1 (.inl (by simp)))
    replace w := s11.ok
    cases r13
    refine h_nil ?_
    obtain ⟨gz14, P⟩ := P.guard
    have wj16 := w
    have sj15 := Stp.refl (W := [p1, p_state]) w
    refine h_forR1 P gz14 (fun (a : (List (Tp3 (Tp2 Int Int) (Option (Tp2 Int Int)) (Tp2 Int Int))) × (List Int)) σ' H' => ∃ (B' : Hp) (o__law_k : Option V), Stp [p1, p_state] B9 H10 B' H' ∧ σ' = [some ((.ref p_state)), some (.int a_few), some ((.ref p1)), o__law_k] ∧ Mu K B' H' p1 (a.1.map enc) ∧ Mu K B' H' p_state (a.2.map enc)) ⟨_, _, sj15, rfl, m4, m_state⟩ ?_ ?_
    · rintro N17 T18 x23 a22 _ H27 ⟨B26, o29, s28, rfl, m4, m_state⟩ hlox23 hhix23 kk19 kr20 kb21 P
      replace st := st.go s28 (go2 (.inr n6) (.inl (by simp)))
      replace w := s28.ok
      have sj15 := s28
      refine h_gname ?_
      refine h_drop ?_
      refine h_bm ?_
      refine h_var rfl ?_
      refine h_bmL m4 ?_
      refine h_cons ?_
      refine h_call ?_
      refine h_cons ?_
      refine h_var rfl ?_
      refine h_cons ?_
      refine h_var rfl ?_
      refine h_nil ?_
      refine ⟨B26, p_state, a22.2, (.ref p1), a22.1, w, rfl, m_state, (m4.bor (nm1 ne7.symm)), (P.bind).mono (fun x30 P => ?_) (fun _ z => z)⟩
      refine fun v34 B31 H32 s33 m_state r35 => ?_
      replace m4 := m4.step s33 (nm1 ne7.symm)
      replace st := st.go s33 (go1 (.inl (by simp)))
      replace sj15 := sj15.go s33 (go1 (.inl (by simp)))
      replace w := s33.ok
      refine h_nil ?_
      obtain ⟨gd, P⟩ := P.guard
      refine h_append (b := x30.1) w m4 r35 gd (fun H36 s37 m4 => ?_)
      replace m_state := m_state.step s37 (nm1 ne7)
      replace st := st.go s37 (go1 (.inr n6))
      replace sj15 := sj15.go s37 (go1 (.inl (by simp)))
      replace w := s37.ok
      refine h_nx ?_
      exact kk19 ((a22.1 ++ [x30.1]), x30.2) _ _ ⟨_, _, sj15, rfl, m4, m_state⟩ P.ok
    · rintro a38 _ H40 ⟨B39, o42, s41, rfl, m4, m_state⟩ P
      replace st := st.go s41 (go2 (.inr n6) (.inl (by simp)))
      replace w := s41.ok
      refine h_nx ?_
      refine h_ret ?_
      refine h_var rfl ?_
      obtain ⟨B47, e43, k44, g45, r46⟩ := Mu.keep m4
      replace st := g45 _ _ _ st w0 n6
      replace m_state := m_state.kp e43 k44 ne7
      replace w := st.ok
      replace r46 : Rep K B47 (.ref p1) (enc a38.1) := r46
      exact P.ok _ _ _ st m_state r46
theorem ok__law_led {f : Addr} {fd : FuncData}  (F : Fun K "_law_led" "_law_led" s__law_led f fd) {f__law_less : Addr} {d__law_less : FuncData} (g__law_less : mg "_law_less" = some (.ref f__law_less)) (k__law_less : PySem.W.keepIn K (.ref f__law_less) = true) (b__law_less : L2.Binds K d__law_less ["_law_one", "_law_other"] []) (G__law_less : FnOk Pr wo K mg base CX0 1 f__law_less d__law_less ["_law_one", "_law_other"] (sp__law_less K)) {f__law_minus : Addr} {d__law_minus : FuncData} (g__law_minus : mg "_law_minus" = some (.ref f__law_minus)) (k__law_minus : PySem.W.keepIn K (.ref f__law_minus) = true) (b__law_minus : L2.Binds K d__law_minus ["_law_one", "_law_other"] []) (G__law_minus : FnOk Pr wo K mg base CX0 3 f__law_minus d__law_minus ["_law_one", "_law_other"] (sp__law_minus K)) {f__law_plus : Addr} {d__law_plus : FuncData} (g__law_plus : mg "_law_plus" = some (.ref f__law_plus)) (k__law_plus : PySem.W.keepIn K (.ref f__law_plus) = true) (b__law_plus : L2.Binds K d__law_plus ["_law_one", "_law_other"] []) (G__law_plus : FnOk Pr wo K mg base CX0 3 f__law_plus d__law_plus ["_law_one", "_law_other"] (sp__law_plus K)) {f__law_times : Addr} {d__law_times : FuncData} (g__law_times : mg "_law_times" = some (.ref f__law_times)) (k__law_times : PySem.W.keepIn K (.ref f__law_times) = true) (b__law_times : L2.Binds K d__law_times ["_law_one", "_law_other"] []) (G__law_times : FnOk Pr wo K mg base CX0 3 f__law_times d__law_times ["_law_one", "_law_other"] (sp__law_times K)) : FnOk Pr wo K mg base CX0 4 f fd ["_law_edits_here", "_law_t"] (sp__law_led K) := by
  refine F.ok sc__law_led (fun vs H Q E h => ?_) (fun cdv A outer s H0 vs Q E hr h => ?_)
  · obtain ⟨_, _, _, _, _, _, rfl, _⟩ := h; rfl
  · obtain ⟨B0, v_edits_here, a_edits_here, v_t, a_t, w, rfl, r_edits_here, r_t, P⟩ := h
    have w0 := w
    have hu := hu_of hr
    have hu64 := hu64_of hr
    have hr1 : Room 1 _ := hr.mono (by decide)
    have hr3 : Room 3 _ := hr.mono (by decide)
    refine ⟨_, (pss_cons (ps_for PassesOwn.never rfl (pi_list (pv 0)) (pg_tupK (K := K) (n := 3) rfl rfl (pgs_cons (pg_name (i := 2) sc__law_led.nd rfl (by first | exact Or.inl rfl | exact Or.inr rfl)) (pgs_cons (pg_name (i := 3) sc__law_led.nd rfl (by first | exact Or.inl rfl | exact Or.inr rfl)) (pgs_cons (pg_name (i := 4) sc__law_led.nd rfl (by first | exact Or.inl rfl | exact Or.inr rfl)) pgs_nil)))) (pss_cons (ps_if (pt_val (pe_call G__law_less hr1 rfl g__law_less k__law_less b__law_less .nil pass0 (pa_cons (pv 1) (pa_cons (pv 2) pa_nil)))) (pss_cons (ps_if (pt_cmpR op_isNn (pv 3) pe_non (nomark _)) (pss_one (ps_ret pe_non)) pss_nil)
      (pss_one (ps_ret (pe_call G__law_plus hr3 rfl g__law_plus k__law_plus b__law_plus .nil pass0 (pa_cons (pv 3) (pa_cons (pe_call G__law_times hr3 rfl g__law_times k__law_times b__law_times .nil pass0 (pa_cons (pv 4) (pa_cons (pv 1) pa_nil))) pa_nil)))))) pss_nil)
      (pss_one (ps_set (i := 1) sc__law_led.nd rfl (by first | exact Or.inl rfl | exact Or.inr rfl) (pe_call G__law_minus hr3 rfl g__law_minus k__law_minus b__law_minus .nil pass0 (pa_cons (pv 1) (pa_cons (pv 2) pa_nil)))))))
      (pss_one (ps_ret pe_non))), ?_⟩
    unfold l_led at P
    have st := Stp.refl (W := []) w
    refine h_seq ?_
    refine h_forE ?_
    refine h_var rfl ?_
    obtain ⟨p1, xs2, rfl, hr4, hb3⟩ := Bor.sq0 r_edits_here
    have wj6 := w
    have sj5 := Stp.refl (W := []) w
    refine h_forL P (hb3 _ _ st) (hr4.mono st.ex) (fun (a : (Tp2 Int Int)) σ' H' => ∃ (B' : Hp) (v0 : V) (o__law_span : Option V) (o__law_start : Option V) (o__law_rate : Option V), Stp [] B0 H0 B' H' ∧ σ' = [some ((.ref p1)), some v0, o__law_span, o__law_start, o__law_rate] ∧ Rep K B' v0 (enc a)) ⟨_, v_t, _, _, _, sj5, rfl, (r_t.mono st.ex)⟩ (fun _ _ _ j => ?_) ?_ ?_
    · obtain ⟨B16, v19, o21, o22, o23, s18, rfl, r20⟩ := j
      exact hb3 _ _ (st.go s18 go0)
    · rintro N7 T8 x13 v14 a12 _ H17 ⟨B16, v19, o21, o22, o23, s18, rfl, r20⟩ r15 kk9 kr10 kb11 P
      replace st := st.go s18 go0
      replace w := s18.ok
      have sj5 := s18
      replace r15 := r15.mono sj5.ex
      obtain ⟨p24, xs25, rfl, hs26, hr27⟩ := Rep.st w r15
      obtain ⟨u28, u30, u32, rfl, r29, r31, r33⟩ := RepL.open3 hr27
      refine h_tupG hs26 rfl ?_
      refine h_gcons ?_
      refine h_gname ?_
      refine h_gcons ?_
      refine h_gname ?_
      refine h_gcons ?_
      refine h_gname ?_
      refine h_gnil ?_
      refine h_seq <| h_if ?_
      refine h_tB ?_
      refine h_call ?_
      refine h_cons ?_
      refine h_var rfl ?_
      refine h_cons ?_
      refine h_var rfl ?_
      refine h_nil ?_
      refine ⟨B16, v19, a12, u28, x13.a, w, rfl, r20, r29, (P.bind).mono (fun x34 P => ?_) (fun _ z => z)⟩
      refine fun v38 B35 H36 s37 r39 => ?_
      replace r20 := r20.mono s37.ex
      replace r29 := r29.mono s37.ex
      replace r31 := r31.mono s37.ex
      replace r33 := r33.mono s37.ex
      replace st := st.go s37 go0
      replace sj5 := sj5.go s37 go0
      replace w := s37.ok
      cases r39
      refine h_bl ?_
      refine h_ite (fun c1 => ?_) (fun c1 => ?_)
      · replace P := P.iteT c1
        refine h_seq <| h_if ?_
        refine h_test ?_
        refine h_op ?_
        refine h_var rfl ?_
        refine h_c ?_
        refine h_isN r31 ?_
        refine h_bl ?_
        refine h_ite (fun c1 => ?_) (fun c1 => ?_)
        · replace P := P.iteT c1
          refine h_ret ?_
          refine h_c ?_
          exact (kr10 _ P.ok) _ _ _ st Rep.non
        · replace P := P.iteF c1
          refine h_next ?_
          refine h_nx ?_
          refine h_ret ?_
          refine h_call ?_
          refine h_cons ?_
          refine h_var rfl ?_
          refine h_cons ?_
          refine h_call ?_
          refine h_cons ?_
          refine h_var rfl ?_
          refine h_cons ?_
          refine h_var rfl ?_
          refine h_nil ?_
          refine ⟨B35, u32, x13.c, v19, a12, w, rfl, r33, r20, (P.bind).mono (fun x40 P => ?_) (fun _ z => z)⟩
          refine fun v44 B41 H42 s43 r45 => ?_
          replace r20 := r20.mono s43.ex
          replace r29 := r29.mono s43.ex
          replace r31 := r31.mono s43.ex
          replace r33 := r33.mono s43.ex
          replace st := st.go s43 go0
          replace sj5 := sj5.go s43 go0
          replace w := s43.ok
          refine h_nil ?_
          obtain ⟨x46, hx47, P⟩ := P.some
          have rc48 := r31
          rw [hx47] at rc48
          replace rc48 : Rep K B41 u30 (enc x46) := rc48
          refine ⟨B41, u30, x46, v44, x40, w, rfl, rc48, r45, (P.bind).mono (fun x49 P => ?_) (fun _ z => z)⟩
          refine fun v53 B50 H51 s52 r54 => ?_
          replace r20 := r20.mono s52.ex
          replace r29 := r29.mono s52.ex
          replace r31 := r31.mono s52.ex
          replace r33 := r33.mono s52.ex
          replace r45 := r45.mono s52.ex
          replace st := st.go s52 go0
          replace sj5 := sj5.go s52 go0
          replace w := s52.ok
          exact (kr10 _ P.ok) _ _ _ st r54
      · replace P := P.iteF c1
        refine h_next ?_
        refine h_nx ?_
        refine h_set1 ?_
        refine h_call ?_
        refine h_cons ?_
        refine h_var rfl ?_
        refine h_cons ?_
        refine h_var rfl ?_
        refine h_nil ?_
        refine ⟨B35, v19, a12, u28, x13.a, w, rfl, r20, r29, (P.bind).mono (fun x55 P => ?_) (fun _ z => z)⟩
        refine fun v59 B56 H57 s58 r60 => ?_
        replace r20 := r20.mono s58.ex
        replace r29 := r29.mono s58.ex
        replace r31 := r31.mono s58.ex
        replace r33 := r33.mono s58.ex
        replace st := st.go s58 go0
        replace sj5 := sj5.go s58 go0
        replace w := s58.ok
        refine h_nx ?_
        exact kk9 x55 _ _ ⟨_, v59, _, _, _, sj5, rfl, r60⟩ P.ok
    · rintro a61 _ H63 ⟨B62, v65, o67, o68, o69, s64, rfl, r66⟩ P
      replace st := st.go s64 go0
      replace w := s64.ok
      refine h_nx ?_
      refine h_ret ?_
      refine h_c ?_
      exact P.ok _ _ _ st Rep.non
theorem ok__law_is_tidy {f : Addr} {fd : FuncData}  (F : Fun K "_law_is_tidy" "_law_is_tidy" s__law_is_tidy f fd) {f__law_plus : Addr} {d__law_plus : FuncData} (g__law_plus : mg "_law_plus" = some (.ref f__law_plus)) (k__law_plus : PySem.W.keepIn K (.ref f__law_plus) = true) (b__law_plus : L2.Binds K d__law_plus ["_law_one", "_law_other"] []) (G__law_plus : FnOk Pr wo K mg base CX0 3 f__law_plus d__law_plus ["_law_one", "_law_other"] (sp__law_plus K)) {f__law_times : Addr} {d__law_times : FuncData} (g__law_times : mg "_law_times" = some (.ref f__law_times)) (k__law_times : PySem.W.keepIn K (.ref f__law_times) = true) (b__law_times : L2.Binds K d__law_times ["_law_one", "_law_other"] []) (G__law_times : FnOk Pr wo K mg base CX0 3 f__law_times d__law_times ["_law_one", "_law_other"] (sp__law_times K)) (bI_range : mg "range" = none) (bI_isinstance : mg "isinstance" = none) (bI_list : mg "list" = none) (bI_len : mg "len" = none) : FnOk Pr wo K mg base CX0 4 f fd ["_law_edits_here"] (sp__law_is_tidy K) := by
  refine F.ok sc__law_is_tidy (fun vs H Q E h => ?_) (fun cdv A outer s H0 vs Q E hr h => ?_)
  · obtain ⟨_, _, _, _, rfl, _⟩ := h; rfl
  · obtain ⟨B0, v_edits_here, a_edits_here, w, rfl, r_edits_here, P⟩ := h
    have w0 := w
    have hu := hu_of hr
    have hu64 := hu64_of hr
    have hr3 : Room 3 _ := hr.mono (by decide)
    refine ⟨_, (pss_cons (ps_if (PW.pt (pw_or (pt_not (pt_val (pe_callB (r := rIsi K) call_isi (by rfl) bI_isinstance PyProof.Rows.boot_isinstance (pa_cons (pv 0) (pa_cons (pe_bltn (v := .ty "list") (by rfl) bI_list Y.boot_list rfl) pa_nil))))) (pw_or1 (PW.pt (pw_and (pt_cmpR (r := rNeD K) (op_neD hu64) (pv 0) (pe_lst pa_nil) (nomark _)) (pw_and1 (pt_cmpR op_isNn (pe_ix (r := rIxT K) ix_tup (pe_ix (r := rIxL K) ix_list (pv 0) (pe_un un_neg pe_int) (fun _ _ => rfl)) pe_int (fun _ _ => rfl)) pe_non (nomark _)))))))) (pss_one (ps_ret pe_bl)) pss_nil)
      (pss_cons (ps_for PassesOwn.never rfl (pi_range1 (by rfl) bI_range (pa_cons (pe_op op_sub (pe_callB (r := rLenY K) cr_len (by rfl) bI_len PySem.boot_len (pa_cons (pv 0) pa_nil)) pe_int) pa_nil)) (pg_name (i := 1) sc__law_is_tidy.nd rfl (by first | exact Or.inl rfl | exact Or.inr rfl)) (pss_cons (ps_asg (pe_ix (r := rIxL K) ix_list (pv 0) (pv 1) (fun _ _ => rfl)) (pg_tupK (K := K) (n := 3) rfl rfl (pgs_cons (pg_name (i := 2) sc__law_is_tidy.nd rfl (by first | exact Or.inl rfl | exact Or.inr rfl)) (pgs_cons (pg_name (i := 3) sc__law_is_tidy.nd rfl (by first | exact Or.inl rfl | exact Or.inr rfl)) (pgs_cons (pg_name (i := 4) sc__law_is_tidy.nd rfl (by first | exact Or.inl rfl | exact Or.inr rfl)) pgs_nil)))))
      (pss_cons (ps_if (PW.pt (pw_and (pt_cmpR op_isNn (pv 3) pe_non (nomark _)) (pw_and1 (pt_cmpR op_isNn (pe_ix (r := rIxT K) ix_tup (pe_ix (r := rIxL K) ix_list (pv 0) (pe_op op_add (pv 1) pe_int) (fun _ _ => rfl)) pe_int (fun _ _ => rfl)) pe_non (nomark _))))) (pss_one (ps_ret pe_bl)) pss_nil)
      (pss_one (ps_if (PW.pt (pw_and (pt_cmpR op_notNn (pv 3) pe_non (nomark _)) (pw_and (pt_cmpR op_notNn (pe_ix (r := rIxT K) ix_tup (pe_ix (r := rIxL K) ix_list (pv 0) (pe_op op_add (pv 1) pe_int) (fun _ _ => rfl)) pe_int (fun _ _ => rfl)) pe_non (nomark _)) (pw_and1 (pt_cmpR (r := rEqD K) (op_eqD hu64) (pv 4) (pe_ix (r := rIxT K) ix_tup (pe_ix (r := rIxL K) ix_list (pv 0) (pe_op op_add (pv 1) pe_int) (fun _ _ => rfl)) pe_int (fun _ _ => rfl)) (nomark _)))))) (pss_one (ps_if (pt_cmpR (r := rEqD K) (op_eqD hu64) (pe_ix (r := rIxT K) ix_tup (pe_ix (r := rIxL K) ix_list (pv 0) (pe_op op_add (pv 1) pe_int) (fun _ _ => rfl)) pe_int (fun _ _ => rfl)) (pe_call G__law_plus hr3 rfl g__law_plus k__law_plus b__law_plus .nil pass0 (pa_cons (pv 3) (pa_cons (pe_call G__law_times hr3 rfl g__law_times k__law_times b__law_times .nil pass0 (pa_cons (pv 4) (pa_cons (pv 2) pa_nil))) pa_nil))) (nomark _)) (pss_one (ps_ret pe_bl)) pss_nil)) pss_nil)))))
      (pss_one (ps_ret pe_bl)))), ?_⟩
    unfold l_is_tidy at P
    have st := Stp.refl (W := []) w
    refine h_seq <| h_if ?_
    have wj2 := w
    have sj1 := Stp.refl (W := []) w
    refine h_condJ P (fun H' => ∃ B', Stp [] B0 H0 B' H') (fun N kk3 P => ?_) ?_
    · skip
      refine h_tor ?_
      refine h_tnot ?_
      refine h_tB ?_
      refine h_cb ?_
      refine h_cons ?_
      refine h_var rfl ?_
      refine h_cons ?_
      refine h_c ?_
      refine h_nil ?_
      obtain ⟨p4, xs5, rfl, hs6, hr7⟩ := Bor.sq (r_edits_here.step st)
      refine isiL (t := "list") (l := a_edits_here.map enc) hs6 ?_
      refine h_bl ?_
      refine h_iteN (fun c1 => ?_) (fun c1 => ?_)
      · replace P := P.iteF c1
        exact kk3 _ _ ⟨_, sj1⟩ P.ok
      · replace P := P.iteT c1
        refine h_tand ?_
        refine h_test ?_
        refine h_op ?_
        refine h_var rfl ?_
        refine h_lst ?_
        refine h_nil ?_
        refine h_newL w (ds := (([] : List D)).map enc) (K := K) .nil (fun p8 B9 H10 s11 r12 => ?_) (by show 0 ≤ sizeLine; decide)
        replace st := st.go s11 go0
        replace sj1 := sj1.go s11 go0
        replace w := s11.ok
        replace r12 : Rep K B9 (.ref p8) (enc ([] : List D)) := r12
        obtain ⟨gd, P⟩ := P.guard
        obtain ⟨p13, xs14, hv, hs15, hr16⟩ := Bor.sq (r_edits_here.step st)
        cases hv
        refine h_neC (d := (enc a_edits_here)) (e := (enc ([] : List D))) (SqL.cp w hs15 hr16) (Rep.cp w r12) gd ?_
        refine h_bl ?_
        refine h_ite (fun c1 => ?_) (fun c1 => ?_)
        · replace P := P.iteT c1
          refine h_test ?_
          refine h_op ?_
          refine h_op ?_
          refine h_op ?_
          refine h_var rfl ?_
          refine h_un ?_
          refine h_c ?_
          refine h_U ?_
          obtain ⟨p17, xs18, hv, hs19, hr20⟩ := Bor.sq (r_edits_here.step st)
          cases hv
          obtain ⟨x21, hx22, P⟩ := P.ix
          obtain ⟨u23, hu, r24⟩ := RepL.atE hr20 hx22
          refine h_ixL hs19 hu ?_
          refine h_c ?_
          obtain ⟨p25, xs26, rfl, hs27, hr28⟩ := Rep.st w r24
          obtain ⟨u29, hu, r30⟩ := RepL.at hr28 (i := 1) rfl
          refine h_ixT hs27 hu ?_
          refine h_c ?_
          refine h_isN r30 ?_
          refine h_bl ?_
          exact kk3 _ _ ⟨_, sj1⟩ P.ok
        · replace P := P.iteF c1
          exact kk3 _ _ ⟨_, sj1⟩ P.ok
    rintro b31 H33 ⟨B32, s34⟩ P
    replace st := st.go s34 go0
    replace w := s34.ok
    refine h_ite (fun c1 => ?_) (fun c1 => ?_)
    · replace P := P.iteT c1
      refine h_ret ?_
      refine h_c ?_
      exact P.ok _ _ _ st (Rep.bl _)
    · replace P := P.iteF c1
      refine h_next ?_
      refine h_nx ?_
      refine h_seq ?_
      refine h_rng1 ?_
      refine h_cons ?_
      refine h_op ?_
      refine h_cb ?_
      refine h_cons ?_
      refine h_var rfl ?_
      refine h_nil ?_
      obtain ⟨p35, xs36, rfl, hs37, hr38⟩ := Bor.sq (r_edits_here.step st)
      refine h_len hs37 hr38 ?_
      refine h_c ?_
      refine h_I0 ?_
      refine h_nil ?_
      obtain ⟨gz39, P⟩ := P.guard
      have wj41 := w
      have sj40 := Stp.refl (W := []) w
      refine h_forR1 P gz39 (fun (a : Unit) σ' H' => ∃ (B' : Hp) (o__law_span : Option V) (o__law_start : Option V) (o__law_rate : Option V) (o__law_k : Option V), Stp [] B32 H33 B' H' ∧ σ' = [some ((.ref p35)), o__law_k, o__law_span, o__law_start, o__law_rate]) ⟨_, _, _, _, _, sj40, rfl⟩ ?_ ?_
      · rintro N42 T43 x48 a47 _ H52 ⟨B51, o54, o55, o56, o57, s53, rfl⟩ hlox48 hhix48 kk44 kr45 kb46 P
        replace st := st.go s53 go0
        replace w := s53.ok
        have sj40 := s53
        refine h_gname ?_
        refine h_seq ?_
        refine h_asg ?_
        refine h_op ?_
        refine h_var rfl ?_
        refine h_var rfl ?_
        obtain ⟨p58, xs59, hv, hs60, hr61⟩ := Bor.sq (r_edits_here.step st)
        cases hv
        obtain ⟨x62, hx63, P⟩ := P.ix
        obtain ⟨u64, hu, r65⟩ := RepL.atE hr61 hx63
        refine h_ixL hs60 hu ?_
        obtain ⟨p66, xs67, rfl, hs68, hr69⟩ := Rep.st w r65
        obtain ⟨u70, u72, u74, rfl, r71, r73, r75⟩ := RepL.open3 hr69
        refine h_tupG hs68 rfl ?_
        refine h_gcons ?_
        refine h_gname ?_
        refine h_gcons ?_
        refine h_gname ?_
        refine h_gcons ?_
        refine h_gname ?_
        refine h_gnil ?_
        refine h_nx ?_
        refine h_seq <| h_if ?_
        have wj77 := w
        have sj76 := Stp.refl (W := []) w
        refine h_condJ P (fun H' => ∃ B', Stp [] B51 H52 B' H') (fun N kk78 P => ?_) ?_
        · skip
          refine h_tand ?_
          refine h_test ?_
          refine h_op ?_
          refine h_var rfl ?_
          refine h_c ?_
          refine h_isN r73 ?_
          refine h_bl ?_
          refine h_ite (fun c1 => ?_) (fun c1 => ?_)
          · replace P := P.iteT c1
            refine h_test ?_
            refine h_op ?_
            refine h_op ?_
            refine h_op ?_
            refine h_var rfl ?_
            refine h_op ?_
            refine h_var rfl ?_
            refine h_c ?_
            refine h_I0 ?_
            obtain ⟨p79, xs80, hv, hs81, hr82⟩ := Bor.sq (r_edits_here.step st)
            cases hv
            obtain ⟨x83, hx84, P⟩ := P.ix
            obtain ⟨u85, hu, r86⟩ := RepL.atE hr82 hx84
            refine h_ixL hs81 hu ?_
            refine h_c ?_
            obtain ⟨p87, xs88, rfl, hs89, hr90⟩ := Rep.st w r86
            obtain ⟨u91, hu, r92⟩ := RepL.at hr90 (i := 1) rfl
            refine h_ixT hs89 hu ?_
            refine h_c ?_
            refine h_isN r92 ?_
            refine h_bl ?_
            exact kk78 _ _ ⟨_, sj76⟩ P.ok
          · replace P := P.iteF c1
            exact kk78 _ _ ⟨_, sj76⟩ P.ok
        rintro b93 H95 ⟨B94, s96⟩ P
        replace r71 := r71.mono s96.ex
        replace r73 := r73.mono s96.ex
        replace r75 := r75.mono s96.ex
        replace st := st.go s96 go0
        replace sj40 := sj40.go s96 go0
        replace w := s96.ok
        refine h_ite (fun c1 => ?_) (fun c1 => ?_)
        · replace P := P.iteT c1
          refine h_ret ?_
          refine h_c ?_
          exact (kr45 _ P.ok) _ _ _ st (Rep.bl _)
        · replace P := P.iteF c1
          refine h_next ?_
          refine h_nx ?_
          refine h_if ?_
          have wj98 := w
          have sj97 := Stp.refl (W := []) w
          refine h_condJ P (fun H' => ∃ B', Stp [] B94 H95 B' H') (fun N kk99 P => ?_) ?_
          · skip
            refine h_tand ?_
            refine h_test ?_
            refine h_op ?_
            refine h_var rfl ?_
            refine h_c ?_
            refine h_notN r73 ?_
            refine h_bl ?_
            refine h_ite (fun c1 => ?_) (fun c1 => ?_)
            · replace P := P.iteT c1
              refine h_tand ?_
              refine h_test ?_
              refine h_op ?_
              refine h_op ?_
              refine h_op ?_
              refine h_var rfl ?_
              refine h_op ?_
              refine h_var rfl ?_
              refine h_c ?_
              refine h_I0 ?_
              obtain ⟨p100, xs101, hv, hs102, hr103⟩ := Bor.sq (r_edits_here.step st)
              cases hv
              obtain ⟨x104, hx105, P⟩ := P.ix
              obtain ⟨u106, hu, r107⟩ := RepL.atE hr103 hx105
              refine h_ixL hs102 hu ?_
              refine h_c ?_
              obtain ⟨p108, xs109, rfl, hs110, hr111⟩ := Rep.st w r107
              obtain ⟨u112, hu, r113⟩ := RepL.at hr111 (i := 1) rfl
              refine h_ixT hs110 hu ?_
              refine h_c ?_
              refine h_notN r113 ?_
              refine h_bl ?_
              refine h_ite (fun c1 => ?_) (fun c1 => ?_)
              · replace P := P.iteT c1
                refine h_test ?_
                refine h_op ?_
                refine h_var rfl ?_
                refine h_op ?_
                refine h_op ?_
                refine h_var rfl ?_
                refine h_op ?_
                refine h_var rfl ?_
                refine h_c ?_
                refine h_I0 ?_
                obtain ⟨p114, xs115, hv, hs116, hr117⟩ := Bor.sq (r_edits_here.step st)
                cases hv
                obtain ⟨x118, hx119, P⟩ := P.ix
                obtain ⟨u120, hu, r121⟩ := RepL.atE hr117 hx119
                refine h_ixL hs116 hu ?_
                refine h_c ?_
                obtain ⟨p122, xs123, rfl, hs124, hr125⟩ := Rep.st w r121
                obtain ⟨u126, hu, r127⟩ := RepL.at hr125 (i := 2) rfl
                refine h_ixT hs124 hu ?_
                obtain ⟨gd, P⟩ := P.guard
                refine h_eqD (d := (enc x62.c)) (e := (enc x118.c)) w r75 r127 gd ?_
                refine h_bl ?_
                exact kk99 _ _ ⟨_, sj97⟩ P.ok
              · replace P := P.iteF c1
                exact kk99 _ _ ⟨_, sj97⟩ P.ok
            · replace P := P.iteF c1
              exact kk99 _ _ ⟨_, sj97⟩ P.ok
          rintro b128 H130 ⟨B129, s131⟩ P
          replace r71 := r71.mono s131.ex
          replace r73 := r73.mono s131.ex
          replace r75 := r75.mono s131.ex
          replace st := st.go s131 go0
          replace sj40 := sj40.go s131 go0
          replace w := s131.ok
          refine h_ite (fun c1 => ?_) (fun c1 => ?_)
          · replace P := P.iteT c1
            refine h_if ?_
            refine h_test ?_
            refine h_op ?_
            refine h_op ?_
            refine h_op ?_
            refine h_var rfl ?_
            refine h_op ?_
            refine h_var rfl ?_
            refine h_c ?_
            refine h_I0 ?_
            obtain ⟨p132, xs133, hv, hs134, hr135⟩ := Bor.sq (r_edits_here.step st)
            cases hv
            obtain ⟨x136, hx137, P⟩ := P.ix
            obtain ⟨u138, hu, r139⟩ := RepL.atE hr135 hx137
            refine h_ixL hs134 hu ?_
            refine h_c ?_
            obtain ⟨p140, xs141, rfl, hs142, hr143⟩ := Rep.st w r139
            obtain ⟨u144, hu, r145⟩ := RepL.at hr143 (i := 1) rfl
            refine h_ixT hs142 hu ?_
            refine h_call ?_
            refine h_cons ?_
            refine h_var rfl ?_
            refine h_cons ?_
            refine h_call ?_
            refine h_cons ?_
            refine h_var rfl ?_
            refine h_cons ?_
            refine h_var rfl ?_
            refine h_nil ?_
            refine ⟨B129, u74, x62.c, u70, x62.a, w, rfl, r75, r71, (P.bind).mono (fun x146 P => ?_) (fun _ z => z)⟩
            refine fun v150 B147 H148 s149 r151 => ?_
            replace r71 := r71.mono s149.ex
            replace r73 := r73.mono s149.ex
            replace r75 := r75.mono s149.ex
            replace r145 := r145.mono s149.ex
            replace st := st.go s149 go0
            replace sj40 := sj40.go s149 go0
            replace w := s149.ok
            refine h_nil ?_
            obtain ⟨x152, hx153, P⟩ := P.some
            have rc154 := r73
            rw [hx153] at rc154
            replace rc154 : Rep K B147 u72 (enc x152) := rc154
            refine ⟨B147, u72, x152, v150, x146, w, rfl, rc154, r151, (P.bind).mono (fun x155 P => ?_) (fun _ z => z)⟩
            refine fun v159 B156 H157 s158 r160 => ?_
            replace r71 := r71.mono s158.ex
            replace r73 := r73.mono s158.ex
            replace r75 := r75.mono s158.ex
            replace r145 := r145.mono s158.ex
            replace r151 := r151.mono s158.ex
            replace st := st.go s158 go0
            replace sj40 := sj40.go s158 go0
            replace w := s158.ok
            obtain ⟨gd, P⟩ := P.guard
            refine h_eqD (d := (enc x136.b)) (e := (enc x155)) w r145 r160 gd ?_
            refine h_bl ?_
            refine h_ite (fun c1 => ?_) (fun c1 => ?_)
            · replace P := P.iteT c1
              refine h_ret ?_
              refine h_c ?_
              exact (kr45 _ P.ok) _ _ _ st (Rep.bl _)
            · replace P := P.iteF c1
              refine h_next ?_
              refine h_nx ?_
              exact kk44 () _ _ ⟨_, _, _, _, _, sj40, rfl⟩ P.ok
          · replace P := P.iteF c1
            refine h_next ?_
            refine h_nx ?_
            exact kk44 () _ _ ⟨_, _, _, _, _, sj40, rfl⟩ P.ok
      · rintro a161 _ H163 ⟨B162, o165, o166, o167, o168, s164, rfl⟩ P
        replace st := st.go s164 go0
        replace w := s164.ok
        refine h_nx ?_
        refine h_ret ?_
        refine h_c ?_
        exact P.ok _ _ _ st (Rep.bl _)
theorem ok__law_met {f : Addr} {fd : FuncData}  (F : Fun K "_law_met" "_law_met" s__law_met f fd) {f__law_times : Addr} {d__law_times : FuncData} (g__law_times : mg "_law_times" = some (.ref f__law_times)) (k__law_times : PySem.W.keepIn K (.ref f__law_times) = true) (b__law_times : L2.Binds K d__law_times ["_law_one", "_law_other"] []) (G__law_times : FnOk Pr wo K mg base CX0 3 f__law_times d__law_times ["_law_one", "_law_other"] (sp__law_times K)) {f__law_less : Addr} {d__law_less : FuncData} (g__law_less : mg "_law_less" = some (.ref f__law_less)) (k__law_less : PySem.W.keepIn K (.ref f__law_less) = true) (b__law_less : L2.Binds K d__law_less ["_law_one", "_law_other"] []) (G__law_less : FnOk Pr wo K mg base CX0 1 f__law_less d__law_less ["_law_one", "_law_other"] (sp__law_less K)) {f__law_minus : Addr} {d__law_minus : FuncData} (g__law_minus : mg "_law_minus" = some (.ref f__law_minus)) (k__law_minus : PySem.W.keepIn K (.ref f__law_minus) = true) (b__law_minus : L2.Binds K d__law_minus ["_law_one", "_law_other"] []) (G__law_minus : FnOk Pr wo K mg base CX0 3 f__law_minus d__law_minus ["_law_one", "_law_other"] (sp__law_minus K)) (bI_int : mg "int" = none) : FnOk Pr wo K mg base CX0 4 f fd ["_law_span", "_law_start", "_law_rate", "_law_mark"] (sp__law_met K) := by
  refine F.ok sc__law_met (fun vs H Q E h => ?_) (fun cdv A outer s H0 vs Q E hr h => ?_)
  · obtain ⟨_, _, _, _, _, _, _, _, _, _, rfl, _⟩ := h; rfl
  · obtain ⟨B0, v_span, a_span, v_start, a_start, v_rate, a_rate, v_mark, a_mark, w, rfl, r_span, r_start, r_rate, r_mark, P⟩ := h
    have w0 := w
    have hu := hu_of hr
    have hu64 := hu64_of hr
    have hr1 : Room 1 _ := hr.mono (by decide)
    have hr3 : Room 3 _ := hr.mono (by decide)
    refine ⟨_, (pss_cons (ps_if (PW.pt (pw_or (pt_cmpR op_isNn (pv 1) pe_non (nomark _)) (pw_or (pt_cmpR op_eq (pe_ix (r := rIxT K) ix_tup (pv 2) pe_int (fun _ _ => rfl)) pe_int (nomark _)) (pw_or1 (pt_val (pe_call G__law_less hr1 rfl g__law_less k__law_less b__law_less .nil pass0 (pa_cons (pv 3) (pa_cons (pv 1) pa_nil)))))))) (pss_one (ps_ret (pe_lst pa_nil))) pss_nil)
      (pss_cons (ps_set (i := 4) sc__law_met.nd rfl (by first | exact Or.inl rfl | exact Or.inr rfl) (pe_call G__law_times hr3 rfl g__law_times k__law_times b__law_times .nil pass0 (pa_cons (pe_call G__law_minus hr3 rfl g__law_minus k__law_minus b__law_minus .nil pass0 (pa_cons (pv 3) (pa_cons (pv 1) pa_nil))) (pa_cons (pe_tup (pa_cons (pe_ix (r := rIxT K) ix_tup (pv 2) pe_int (fun _ _ => rfl)) (pa_cons (pe_ix (r := rIxT K) ix_tup (pv 2) pe_int (fun _ _ => rfl)) pa_nil))) pa_nil))))
      (pss_one (ps_ret (pe_op (r := rRepQ K) op_repQ (pe_lst (pa_cons (pv 4) pa_nil)) (pe_callTy cr_int (by rfl) bI_int Y.boot_int (pa_cons (pe_call G__law_less hr1 rfl g__law_less k__law_less b__law_less .nil pass0 (pa_cons (pv 4) (pa_cons (pv 0) pa_nil))) pa_nil))))))), ?_⟩
    unfold l_met at P
    have st := Stp.refl (W := []) w
    refine h_seq <| h_if ?_
    have wj2 := w
    have sj1 := Stp.refl (W := []) w
    refine h_condJ P (fun H' => ∃ B', Stp [] B0 H0 B' H') (fun N kk3 P => ?_) ?_
    · skip
      refine h_tor ?_
      refine h_test ?_
      refine h_op ?_
      refine h_var rfl ?_
      refine h_c ?_
      refine h_isN (r_start.mono st.ex) ?_
      refine h_bl ?_
      refine h_ite (fun c1 => ?_) (fun c1 => ?_)
      · replace P := P.iteT c1
        exact kk3 _ _ ⟨_, sj1⟩ P.ok
      · replace P := P.iteF c1
        refine h_tor ?_
        refine h_test ?_
        refine h_op ?_
        refine h_op ?_
        refine h_var rfl ?_
        refine h_c ?_
        obtain ⟨p4, xs5, rfl, hs6, hr7⟩ := Rep.st w (r_rate.mono st.ex)
        obtain ⟨u8, hu, r9⟩ := RepL.at hr7 (i := 0) rfl
        refine h_ixT hs6 hu ?_
        cases r9
        refine h_c ?_
        refine h_eqI ?_
        refine h_bl ?_
        refine h_ite (fun c1 => ?_) (fun c1 => ?_)
        · replace P := P.iteT c1
          exact kk3 _ _ ⟨_, sj1⟩ P.ok
        · replace P := P.iteF c1
          refine h_tB ?_
          refine h_call ?_
          refine h_cons ?_
          refine h_var rfl ?_
          refine h_cons ?_
          refine h_var rfl ?_
          refine h_nil ?_
          obtain ⟨x10, hx11, P⟩ := P.some
          have rc12 := (r_start.mono st.ex)
          rw [hx11] at rc12
          replace rc12 : Rep K B0 v_start (enc x10) := rc12
          refine ⟨B0, v_mark, a_mark, v_start, x10, w, rfl, (r_mark.mono st.ex), rc12, (P.bind).mono (fun x13 P => ?_) (fun _ z => z)⟩
          refine fun v17 B14 H15 s16 r18 => ?_
          replace st := st.go s16 go0
          replace sj1 := sj1.go s16 go0
          replace w := s16.ok
          cases r18
          refine h_bl ?_
          exact kk3 _ _ ⟨_, sj1⟩ P.ok
    rintro b19 H21 ⟨B20, s22⟩ P
    replace st := st.go s22 go0
    replace w := s22.ok
    refine h_ite (fun c1 => ?_) (fun c1 => ?_)
    · replace P := P.iteT c1
      refine h_ret ?_
      refine h_lst ?_
      refine h_nil ?_
      refine h_newL w (ds := (([] : List (Tp2 Int Int))).map enc) (K := K) .nil (fun p23 B24 H25 s26 r27 => ?_) (by show 0 ≤ sizeLine; decide)
      replace st := st.go s26 go0
      replace w := s26.ok
      replace r27 : Rep K B24 (.ref p23) (enc ([] : List (Tp2 Int Int))) := r27
      exact P.ok _ _ _ st r27
    · replace P := P.iteF c1
      refine h_next ?_
      refine h_nx ?_
      refine h_set ?_
      refine h_call ?_
      refine h_cons ?_
      refine h_call ?_
      refine h_cons ?_
      refine h_var rfl ?_
      refine h_cons ?_
      refine h_var rfl ?_
      refine h_nil ?_
      obtain ⟨x28, hx29, P⟩ := P.some
      have rc30 := (r_start.mono st.ex)
      rw [hx29] at rc30
      replace rc30 : Rep K B20 v_start (enc x28) := rc30
      refine ⟨B20, v_mark, a_mark, v_start, x28, w, rfl, (r_mark.mono st.ex), rc30, (P.bind).mono (fun x31 P => ?_) (fun _ z => z)⟩
      refine fun v35 B32 H33 s34 r36 => ?_
      replace st := st.go s34 go0
      replace w := s34.ok
      refine h_cons ?_
      refine h_tup ?_
      refine h_cons ?_
      refine h_op ?_
      refine h_var rfl ?_
      refine h_c ?_
      obtain ⟨p37, xs38, rfl, hs39, hr40⟩ := Rep.st w (r_rate.mono st.ex)
      obtain ⟨u41, hu, r42⟩ := RepL.at hr40 (i := 1) rfl
      refine h_ixT hs39 hu ?_
      cases r42
      refine h_cons ?_
      refine h_op ?_
      refine h_var rfl ?_
      refine h_c ?_
      obtain ⟨p43, xs44, hv, hs45, hr46⟩ := Rep.st w (r_rate.mono st.ex)
      cases hv
      obtain ⟨u47, hu, r48⟩ := RepL.at hr46 (i := 0) rfl
      refine h_ixT hs45 hu ?_
      cases r48
      refine h_nil ?_
      refine h_newT w (K := K) (.cons (Rep.int _) (.cons (Rep.int _) .nil)) (fun p49 B50 H51 s52 r53 => ?_) (by show 2 ≤ sizeLine; decide)
      replace r36 := r36.mono s52.ex
      replace st := st.go s52 go0
      replace w := s52.ok
      replace r53 : Rep K B50 (.ref p49) (enc (⟨a_rate.b, a_rate.a⟩ : (Tp2 Int Int))) := r53
      refine h_nil ?_
      refine ⟨B50, v35, x31, (.ref p49), (⟨a_rate.b, a_rate.a⟩ : (Tp2 Int Int)), w, rfl, r36, r53, (P.bind).mono (fun x54 P => ?_) (fun _ z => z)⟩
      refine fun v58 B55 H56 s57 r59 => ?_
      replace r36 := r36.mono s57.ex
      replace r53 := r53.mono s57.ex
      replace st := st.go s57 go0
      replace w := s57.ok
      refine h_ret ?_
      refine h_op ?_
      refine h_lst ?_
      refine h_cons ?_
      refine h_var rfl ?_
      refine h_nil ?_
      refine h_newL w (ds := (([x54] : List (Tp2 Int Int))).map enc) (K := K) (.cons r59 .nil) (fun p60 B61 H62 s63 r64 => ?_) (by show 1 ≤ sizeLine; decide)
      replace r59 := r59.mono s63.ex
      replace st := st.go s63 go0
      replace w := s63.ok
      replace r64 : Rep K B61 (.ref p60) (enc ([x54] : List (Tp2 Int Int))) := r64
      refine h_cb ?_
      refine h_cons ?_
      refine h_call ?_
      refine h_cons ?_
      refine h_var rfl ?_
      refine h_cons ?_
      refine h_var rfl ?_
      refine h_nil ?_
      refine ⟨B61, v58, x54, v_span, a_span, w, rfl, r59, (r_span.mono st.ex), (P.bind).mono (fun x65 P => ?_) (fun _ z => z)⟩
      refine fun v69 B66 H67 s68 r70 => ?_
      replace r59 := r59.mono s68.ex
      replace r64 := r64.mono s68.ex
      replace st := st.go s68 go0
      replace w := s68.ok
      cases r70
      refine h_nil ?_
      refine h_intB ?_
      obtain ⟨p71, xs72, hv, hs73, hr74⟩ := Rep.sq w r64
      cases hv
      obtain ⟨gd, P⟩ := P.guard
      refine h_repQ hs73 (hr74.length.trans (List.length_map ..)) gd ?_
      refine h_nwL w (ds := ((timesL ([x54] : List (Tp2 Int Int)) (b2z x65))).map enc) (K := K) (RepL.times hr74 (b2z x65)) (fun p75 B76 H77 s78 r79 => ?_) 
      replace r59 := r59.mono s78.ex
      replace st := st.go s78 go0
      replace w := s78.ok
      replace r79 : Rep K B76 (.ref p75) (enc (timesL ([x54] : List (Tp2 Int Int)) (b2z x65))) := r79
      exact P.ok _ _ _ st r79
theorem ok__law_moments {f : Addr} {fd : FuncData}  (F : Fun K "_law_moments" "_law_moments" s__law_moments f fd) {f__law_plus : Addr} {d__law_plus : FuncData} (g__law_plus : mg "_law_plus" = some (.ref f__law_plus)) (k__law_plus : PySem.W.keepIn K (.ref f__law_plus) = true) (b__law_plus : L2.Binds K d__law_plus ["_law_one", "_law_other"] []) (G__law_plus : FnOk Pr wo K mg base CX0 3 f__law_plus d__law_plus ["_law_one", "_law_other"] (sp__law_plus K)) {f__law_amount : Addr} {d__law_amount : FuncData} (g__law_amount : mg "_law_amount" = some (.ref f__law_amount)) (k__law_amount : PySem.W.keepIn K (.ref f__law_amount) = true) (b__law_amount : L2.Binds K d__law_amount ["_law_state"] []) (G__law_amount : FnOk Pr wo K mg base CX0 3 f__law_amount d__law_amount ["_law_state"] (sp__law_amount K)) {f__law_lowest : Addr} {d__law_lowest : FuncData} (g__law_lowest : mg "_law_lowest" = some (.ref f__law_lowest)) (k__law_lowest : PySem.W.keepIn K (.ref f__law_lowest) = true) (b__law_lowest : L2.Binds K d__law_lowest ["_law_top", "_law_bottom"] []) (G__law_lowest : FnOk Pr wo K mg base CX0 2 f__law_lowest d__law_lowest ["_law_top", "_law_bottom"] (sp__law_lowest K)) {f__law_times : Addr} {d__law_times : FuncData} (g__law_times : mg "_law_times" = some (.ref f__law_times)) (k__law_times : PySem.W.keepIn K (.ref f__law_times) = true) (b__law_times : L2.Binds K d__law_times ["_law_one", "_law_other"] []) (G__law_times : FnOk Pr wo K mg base CX0 3 f__law_times d__law_times ["_law_one", "_law_other"] (sp__law_times K)) {f__law_digit : Addr} {d__law_digit : FuncData} (g__law_digit : mg "_law_digit" = some (.ref f__law_digit)) (k__law_digit : PySem.W.keepIn K (.ref f__law_digit) = true) (b__law_digit : L2.Binds K d__law_digit ["_law_state", "_law_base"] []) (G__law_digit : FnOk Pr wo K mg base CX0 1 f__law_digit d__law_digit ["_law_state", "_law_base"] (sp__law_digit K)) {f__law_met : Addr} {d__law_met : FuncData} (g__law_met : mg "_law_met" = some (.ref f__law_met)) (k__law_met : PySem.W.keepIn K (.ref f__law_met) = true) (b__law_met : L2.Binds K d__law_met ["_law_span", "_law_start", "_law_rate", "_law_mark"] []) (G__law_met : FnOk Pr wo K mg base CX0 4 f__law_met d__law_met ["_law_span", "_law_start", "_law_rate", "_law_mark"] (sp__law_met K)) : FnOk Pr wo K mg base CX0 5 f fd ["_law_above", "_law_below", "_law_cells"] (sp__law_moments K) := by
  refine F.ok sc__law_moments (fun vs H Q E h => ?_) (fun cdv A outer s H0 vs Q E hr h => ?_)
  · obtain ⟨_, _, _, _, _, _, _, _, rfl, _⟩ := h; rfl
  · obtain ⟨B0, v_above, a_above, v_below, a_below, v_cells, a_cells, w, rfl, r_above, r_below, r_cells, P⟩ := h
    have w0 := w
    have hu := hu_of hr
    have hu64 := hu64_of hr
    have hr1 : Room 1 _ := hr.mono (by decide)
    have hr2 : Room 2 _ := hr.mono (by decide)
    have hr3 : Room 3 _ := hr.mono (by decide)
    have hr4 : Room 4 _ := hr.mono (by decide)
    refine ⟨_, (pss_cons (ps_set (i := 3) sc__law_moments.nd rfl (by first | exact Or.inl rfl | exact Or.inr rfl) (pe_lst (pa_cons (pe_tup (pa_cons pe_int (pa_cons pe_int pa_nil))) pa_nil)))
      (pss_cons (ps_for PassesOwn.never rfl (pi_list (pv 1)) (pg_tupK (K := K) (n := 3) rfl rfl (pgs_cons (pg_name (i := 4) sc__law_moments.nd rfl (by first | exact Or.inl rfl | exact Or.inr rfl)) (pgs_cons (pg_name (i := 5) sc__law_moments.nd rfl (by first | exact Or.inl rfl | exact Or.inr rfl)) (pgs_cons (pg_name (i := 6) sc__law_moments.nd rfl (by first | exact Or.inl rfl | exact Or.inr rfl)) pgs_nil)))) (pss_one (ps_expr (pe_bm PySem.F.plainAttrs_list PySem.F.slot_list_append PySem.F.type_list_append mt_append (pv 3) (pa_cons (pe_call G__law_plus hr3 rfl g__law_plus k__law_plus b__law_plus .nil pass0 (pa_cons (pe_ix (r := rIxL K) ix_list (pv 3) (pe_un un_neg pe_int) (fun _ _ => rfl)) (pa_cons (pv 4) pa_nil))) pa_nil)))))
      (pss_cons (ps_set (i := 7) sc__law_moments.nd rfl (by first | exact Or.inl rfl | exact Or.inr rfl) (pe_lst pa_nil))
      (pss_cons (ps_set (i := 8) sc__law_moments.nd rfl (by first | exact Or.inl rfl | exact Or.inr rfl) (pe_tup (pa_cons pe_int (pa_cons pe_int pa_nil))))
      (pss_cons (ps_for PassesOwn.never rfl (pi_list (pv 0)) (pg_tupK (K := K) (n := 3) rfl rfl (pgs_cons (pg_name (i := 4) sc__law_moments.nd rfl (by first | exact Or.inl rfl | exact Or.inr rfl)) (pgs_cons (pg_name (i := 5) sc__law_moments.nd rfl (by first | exact Or.inl rfl | exact Or.inr rfl)) (pgs_cons (pg_name (i := 6) sc__law_moments.nd rfl (by first | exact Or.inl rfl | exact Or.inr rfl)) pgs_nil)))) (pss_cons (ps_set (i := 7) sc__law_moments.nd rfl (by first | exact Or.inl rfl | exact Or.inr rfl) (pe_op (r := rCatQ K) op_catQ (pv 7) (pe_lst (pa_cons (pv 8) (pa_cons (pe_call G__law_plus hr3 rfl g__law_plus k__law_plus b__law_plus .nil pass0 (pa_cons (pv 8) (pa_cons (pe_call G__law_times hr3 rfl g__law_times k__law_times b__law_times .nil pass0 (pa_cons (pv 4) (pa_cons (pe_tup (pa_cons pe_int (pa_cons pe_int pa_nil))) pa_nil))) pa_nil))) pa_nil)))))
      (pss_cons (ps_for PassesOwn.never rfl (pi_list (pv 3)) (pg_name (i := 9) sc__law_moments.nd rfl (by first | exact Or.inl rfl | exact Or.inr rfl)) (pss_one (ps_set (i := 7) sc__law_moments.nd rfl (by first | exact Or.inl rfl | exact Or.inr rfl) (pe_op (r := rCatQ K) op_catQ (pv 7) (pe_lc (own := [("_law_later", 10)]) rfl sc__law_moments.nd (pi_list (pe_call G__law_met hr4 rfl g__law_met k__law_met b__law_met .nil pass0 (pa_cons (pv 4) (pa_cons (pv 5) (pa_cons (pv 6) (pa_cons (pv 9) pa_nil)))))) (blkOk_by (N := ["_law_above", "_law_below", "_law_cells", "_law_marks", "_law_span", "_law_start", "_law_rate", "_law_found", "_law_begin", "_law_mark", "_law_later", "_law_cell", "_law_state"]) (sc := defScope s__law_moments) (by decide +kernel)) (fun _ _ _ _ _ => (pg_name (i := 10) sc__law_moments.nd rfl (by first | exact Or.inl rfl | exact Or.inr rfl))) (fun _ _ _ _ _ => pts_nil) (fun _ _ _ _ _ => (pe_call G__law_plus hr3 rfl g__law_plus k__law_plus b__law_plus .nil pass0 (pa_cons (pv 8) (pa_cons (pv 10) pa_nil)))))))))
      (pss_one (ps_set (i := 8) sc__law_moments.nd rfl (by first | exact Or.inl rfl | exact Or.inr rfl) (pe_call G__law_plus hr3 rfl g__law_plus k__law_plus b__law_plus .nil pass0 (pa_cons (pv 8) (pa_cons (pv 4) pa_nil))))))))
      (pss_cons (ps_for PassesOwn.never rfl (pi_list (pv 2)) (pg_name (i := 11) sc__law_moments.nd rfl (by first | exact Or.inl rfl | exact Or.inr rfl)) (pss_cons (ps_set (i := 12) sc__law_moments.nd rfl (by first | exact Or.inl rfl | exact Or.inr rfl) (pe_lst (pa_cons (pv 11) pa_nil)))
      (pss_one (ps_expr (pe_bm PySem.F.plainAttrs_list PySem.F.slot_list_append PySem.F.type_list_append mt_append (pv 7) (pa_cons (pe_call G__law_plus hr3 rfl g__law_plus k__law_plus b__law_plus .nil pass0 (pa_cons (pe_call G__law_amount hr3 rfl g__law_amount k__law_amount b__law_amount .nil pass0 (pa_cons (pv 12) pa_nil)) (pa_cons (pe_call G__law_lowest hr2 rfl g__law_lowest k__law_lowest b__law_lowest .nil pass0 (pa_cons (pe_call G__law_digit hr1 rfl g__law_digit k__law_digit b__law_digit .nil pass0 (pa_cons (pv 12) (pa_cons pe_int pa_nil))) (pa_cons (pe_op op_add pe_int (pe_call G__law_digit hr1 rfl g__law_digit k__law_digit b__law_digit .nil pass0 (pa_cons (pv 12) (pa_cons pe_int pa_nil)))) pa_nil))) pa_nil))) pa_nil))))))
      (pss_one (ps_ret (pe_op (r := rCatQ K) op_catQ (pv 7) (pe_lst (pa_cons (pv 8) (pa_cons (pe_call G__law_plus hr3 rfl g__law_plus k__law_plus b__law_plus .nil pass0 (pa_cons (pv 8) (pa_cons (pe_tup (pa_cons pe_int (pa_cons pe_int pa_nil))) pa_nil))) pa_nil)))))))))))), ?_⟩
    unfold l_moments at P
    have st := Stp.refl (W := []) w
    refine h_set ?_
    refine h_lst ?_
    refine h_cons ?_
    refine h_tup ?_
    refine h_cons ?_
    refine h_c ?_
    refine h_cons ?_
    refine h_c ?_
    refine h_nil ?_
    refine h_newT w (K := K) (.cons (Rep.int _) (.cons (Rep.int _) .nil)) (fun p1 B2 H3 s4 r5 => ?_) (by show 2 ≤ sizeLine; decide)
    replace st := st.go s4 go0
    replace w := s4.ok
    replace r5 : Rep K B2 (.ref p1) (enc (⟨0, 1⟩ : (Tp2 Int Int))) := r5
    refine h_nil ?_
    refine h_newM w (ds := (([(⟨0, 1⟩ : (Tp2 Int Int))] : List (Tp2 Int Int))).map enc) (K := K) (.cons r5 .nil) (fun p6 H7 hn10 s8 m9 => ?_) (by show 1 ≤ sizeLine; decide)
    have n11 := st.nn hn10
    replace st := st.go s8 go0
    replace w := s8.ok
    refine h_seq ?_
    refine h_forE ?_
    refine h_var rfl ?_
    obtain ⟨p12, xs13, rfl, hb14, hr15⟩ := Rep.sqB (r_below.mono st.ex)
    have wj17 := w
    have sj16 := Stp.refl (W := [p6]) w
    refine h_forL P (w.l hb14) hr15 (fun (a : (List (Tp2 Int Int))) σ' H' => ∃ (B' : Hp) (o__law_span : Option V) (o__law_start : Option V) (o__law_rate : Option V), Stp [p6] B2 H7 B' H' ∧ σ' = [some (v_above), some ((.ref p12)), some (v_cells), some ((.ref p6)), o__law_span, o__law_start, o__law_rate, none, none, none, none, none, none] ∧ Mu K B' H' p6 (a.map enc)) ⟨_, _, _, _, sj16, rfl, m9⟩ (fun _ _ _ j => ?_) ?_ ?_
    · obtain ⟨B27, o30, o31, o32, s29, rfl, m9⟩ := j
      exact s29.ok.l (s29.ex.l hb14)
    · rintro N18 T19 x24 v25 a23 _ H28 ⟨B27, o30, o31, o32, s29, rfl, m9⟩ r26 kk20 kr21 kb22 P
      replace st := st.go s29 (go1 (.inr n11))
      replace w := s29.ok
      have sj16 := s29
      replace r26 := r26.mono sj16.ex
      obtain ⟨p33, xs34, rfl, hs35, hr36⟩ := Rep.st w r26
      obtain ⟨u37, u39, u41, rfl, r38, r40, r42⟩ := RepL.open3 hr36
      refine h_tupG hs35 rfl ?_
      refine h_gcons ?_
      refine h_gname ?_
      refine h_gcons ?_
      refine h_gname ?_
      refine h_gcons ?_
      refine h_gname ?_
      refine h_gnil ?_
      refine h_drop ?_
      refine h_bm ?_
      refine h_var rfl ?_
      refine h_bmL m9 ?_
      refine h_cons ?_
      refine h_call ?_
      refine h_cons ?_
      refine h_op ?_
      refine h_var rfl ?_
      refine h_un ?_
      refine h_c ?_
      refine h_U ?_
      obtain ⟨xs44, hv, hs45, hr46⟩ := Mu.sq m9
      obtain ⟨x47, hx48, P⟩ := P.ix
      obtain ⟨u49, hu, r50⟩ := RepL.atE hr46 hx48
      refine h_ixL hs45 hu ?_
      refine h_cons ?_
      refine h_var rfl ?_
      refine h_nil ?_
      refine ⟨B27, u49, x47, u37, x24.a, w, rfl, r50, r38, (P.bind).mono (fun x51 P => ?_) (fun _ z => z)⟩
      refine fun v55 B52 H53 s54 r56 => ?_
      replace m9 := m9.step s54 nm0
      replace r38 := r38.mono s54.ex
      replace r40 := r40.mono s54.ex
      replace r42 := r42.mono s54.ex
      replace r50 := r50.mono s54.ex
      replace st := st.go s54 go0
      replace sj16 := sj16.go s54 go0
      replace w := s54.ok
      refine h_nil ?_
      obtain ⟨gd, P⟩ := P.guard
      refine h_append (b := x51) w m9 r56 gd (fun H57 s58 m9 => ?_)
      replace r38 := r38.mono s58.ex
      replace r40 := r40.mono s58.ex
      replace r42 := r42.mono s58.ex
      replace st := st.go s58 (go1 (.inr n11))
      replace sj16 := sj16.go s58 (go1 (.inl (by simp)))
      replace w := s58.ok
      refine h_nx ?_
      exact kk20 (a23 ++ [x51]) _ _ ⟨_, _, _, _, sj16, rfl, m9⟩ P.ok
    · rintro a59 _ H61 ⟨B60, o63, o64, o65, s62, rfl, m9⟩ P
      replace st := st.go s62 (go1 (.inr n11))
      replace w := s62.ok
      refine h_nx ?_
      refine h_set ?_
      refine h_lst ?_
      refine h_nil ?_
      refine h_newM w (ds := (([] : List (Tp2 Int Int))).map enc) (K := K) .nil (fun p66 H67 hn70 s68 m69 => ?_) (by show 0 ≤ sizeLine; decide)
      have n71 := st.nn hn70
      have ne72 := Mu.ne m9 hn70
      replace m9 := m9.step s68 nm0
      replace st := st.go s68 go0
      replace w := s68.ok
      refine h_set ?_
      refine h_tup ?_
      refine h_cons ?_
      refine h_c ?_
      refine h_cons ?_
      refine h_c ?_
      refine h_nil ?_
      refine h_newT w (K := K) (.cons (Rep.int _) (.cons (Rep.int _) .nil)) (fun p73 B74 H75 s76 r77 => ?_) (by show 2 ≤ sizeLine; decide)
      replace m9 := m9.step s76 nm0
      replace m69 := m69.step s76 nm0
      replace st := st.go s76 go0
      replace w := s76.ok
      replace r77 : Rep K B74 (.ref p73) (enc (⟨0, 1⟩ : (Tp2 Int Int))) := r77
      refine h_seq ?_
      refine h_forE ?_
      refine h_var rfl ?_
      obtain ⟨p78, xs79, rfl, hb80, hr81⟩ := Rep.sqB (r_above.mono st.ex)
      have wj83 := w
      have sj82 := Stp.refl (W := []) w
      refine h_forL P (w.l hb80) hr81 (fun (a : (List (Tp2 Int Int)) × (Tp2 Int Int)) σ' H' => ∃ (B' : Hp) (p__law_found : Addr) (v1 : V) (o__law_mark : Option V) (o__law_later : Option V) (o__law_span : Option V) (o__law_start : Option V) (o__law_rate : Option V), Stp [] B74 H75 B' H' ∧ σ' = [some ((.ref p78)), some ((.ref p12)), some (v_cells), some ((.ref p6)), o__law_span, o__law_start, o__law_rate, some (.ref p__law_found), some v1, o__law_mark, o__law_later, none, none] ∧ Mu K B' H' p__law_found (a.1.map enc) ∧ H0 p__law_found = none ∧ p__law_found ≠ p6 ∧ Rep K B' v1 (enc a.2)) ⟨_, p66, (.ref p73), _, _, _, _, _, sj82, rfl, m69, n71, ne72.symm, r77⟩ (fun _ _ _ j => ?_) ?_ ?_
      · obtain ⟨B93, p96, v100, o102, o103, o104, o105, o106, s95, rfl, m97, n98, ne99, r101⟩ := j
        exact s95.ok.l (s95.ex.l hb80)
      · rintro N84 T85 x90 v91 a89 _ H94 ⟨B93, p96, v100, o102, o103, o104, o105, o106, s95, rfl, m97, n98, ne99, r101⟩ r92 kk86 kr87 kb88 P
        replace m9 := m9.step s95 nm0
        replace st := st.go s95 go0
        replace w := s95.ok
        have sj82 := s95
        replace r92 := r92.mono sj82.ex
        obtain ⟨p107, xs108, rfl, hs109, hr110⟩ := Rep.st w r92
        obtain ⟨u111, u113, u115, rfl, r112, r114, r116⟩ := RepL.open3 hr110
        refine h_tupG hs109 rfl ?_
        refine h_gcons ?_
        refine h_gname ?_
        refine h_gcons ?_
        refine h_gname ?_
        refine h_gcons ?_
        refine h_gname ?_
        refine h_gnil ?_
        refine h_set ?_
        refine h_op ?_
        refine h_var rfl ?_
        refine h_lst ?_
        refine h_cons ?_
        refine h_var rfl ?_
        refine h_cons ?_
        refine h_call ?_
        refine h_cons ?_
        refine h_var rfl ?_
        refine h_cons ?_
        refine h_call ?_
        refine h_cons ?_
        refine h_var rfl ?_
        refine h_cons ?_
        refine h_tup ?_
        refine h_cons ?_
        refine h_c ?_
        refine h_cons ?_
        refine h_c ?_
        refine h_nil ?_
        refine h_newT w (K := K) (.cons (Rep.int _) (.cons (Rep.int _) .nil)) (fun p117 B118 H119 s120 r121 => ?_) (by show 2 ≤ sizeLine; decide)
        replace m9 := m9.step s120 nm0
        replace m97 := m97.step s120 nm0
        replace r101 := r101.mono s120.ex
        replace r112 := r112.mono s120.ex
        replace r114 := r114.mono s120.ex
        replace r116 := r116.mono s120.ex
        replace st := st.go s120 go0
        replace sj82 := sj82.go s120 go0
        replace w := s120.ok
        replace r121 : Rep K B118 (.ref p117) (enc (⟨1, 2⟩ : (Tp2 Int Int))) := r121
        refine h_nil ?_
        refine ⟨B118, u111, x90.a, (.ref p117), (⟨1, 2⟩ : (Tp2 Int Int)), w, rfl, r112, r121, (P.bind).mono (fun x122 P => ?_) (fun _ z => z)⟩
        refine fun v126 B123 H124 s125 r127 => ?_
        replace m9 := m9.step s125 nm0
        replace m97 := m97.step s125 nm0
        replace r101 := r101.mono s125.ex
        replace r112 := r112.mono s125.ex
        replace r114 := r114.mono s125.ex
        replace r116 := r116.mono s125.ex
        replace r121 := r121.mono s125.ex
        replace st := st.go s125 go0
        replace sj82 := sj82.go s125 go0
        replace w := s125.ok
        refine h_nil ?_
        refine ⟨B123, v100, a89.2, v126, x122, w, rfl, r101, r127, (P.bind).mono (fun x128 P => ?_) (fun _ z => z)⟩
        refine fun v132 B129 H130 s131 r133 => ?_
        replace m9 := m9.step s131 nm0
        replace m97 := m97.step s131 nm0
        replace r101 := r101.mono s131.ex
        replace r112 := r112.mono s131.ex
        replace r114 := r114.mono s131.ex
        replace r116 := r116.mono s131.ex
        replace r127 := r127.mono s131.ex
        replace st := st.go s131 go0
        replace sj82 := sj82.go s131 go0
        replace w := s131.ok
        refine h_nil ?_
        refine h_newL w (ds := (([a89.2, x128] : List (Tp2 Int Int))).map enc) (K := K) (.cons r101 (.cons r133 .nil)) (fun p134 B135 H136 s137 r138 => ?_) (by show 2 ≤ sizeLine; decide)
        replace m9 := m9.step s137 nm0
        replace m97 := m97.step s137 nm0
        replace r101 := r101.mono s137.ex
        replace r112 := r112.mono s137.ex
        replace r114 := r114.mono s137.ex
        replace r116 := r116.mono s137.ex
        replace st := st.go s137 go0
        replace sj82 := sj82.go s137 go0
        replace w := s137.ok
        replace r138 : Rep K B135 (.ref p134) (enc ([a89.2, x128] : List (Tp2 Int Int))) := r138
        obtain ⟨xs140, hv, hs141, hr142⟩ := Mu.sq m97
        obtain ⟨p143, xs144, hv, hs145, hr146⟩ := Rep.sq w r138
        cases hv
        obtain ⟨gd, P⟩ := P.guard
        refine h_cat hs141 hs145 (by have g := gd; simp only [hr142.length, hr146.length, List.length_map] at g ⊢; exact Nat.le_trans g (by decide)) ?_
        refine h_nwM w (ds := ((a89.1 ++ ([a89.2, x128] : List (Tp2 Int Int)))).map enc) (K := K) (RepL.cat hr142 hr146) (fun p147 H148 hn151 s149 m150 => ?_) 
        have n152 := st.nn hn151
        have n153 := sj82.nn hn151
        have ne154 := Mu.ne m9 hn151
        have ne155 := Mu.ne m97 hn151
        replace m9 := m9.step s149 nm0
        replace m97 := m97.step s149 nm0
        replace r101 := r101.mono s149.ex
        replace r112 := r112.mono s149.ex
        replace r114 := r114.mono s149.ex
        replace r116 := r116.mono s149.ex
        replace st := st.go s149 go0
        replace sj82 := sj82.go s149 go0
        replace w := s149.ok
        refine h_seq ?_
        refine h_forE ?_
        refine h_var rfl ?_
        obtain ⟨xs157, hb158, hs, hr159⟩ := Mu.sq m9
        have wj161 := w
        have sj160 := Stp.refl (W := []) w
        refine h_forL P (SqL.of hb158) hr159 (fun (a : (List (Tp2 Int Int))) σ' H' => ∃ (B' : Hp) (p__law_found : Addr) (o__law_later : Option V) (o__law_mark : Option V), Stp [] B135 H148 B' H' ∧ σ' = [some ((.ref p78)), some ((.ref p12)), some (v_cells), some ((.ref p6)), some (u111), some (u113), some (u115), some (.ref p__law_found), some (v100), o__law_mark, o__law_later, none, none] ∧ Mu K B' H' p__law_found (a.map enc) ∧ H0 p__law_found = none ∧ H75 p__law_found = none ∧ p__law_found ≠ p6) ⟨_, p147, _, _, sj160, rfl, m150, n152, n153, ne154.symm⟩ (fun _ _ _ j => ?_) ?_ ?_
        · obtain ⟨B171, p174, o179, o180, s173, rfl, m175, n176, n177, ne178⟩ := j
          exact SqL.of (s173.fr _ _ nm0 hb158)
        · rintro N162 T163 x168 v169 a167 _ H172 ⟨B171, p174, o179, o180, s173, rfl, m175, n176, n177, ne178⟩ r170 kk164 kr165 kb166 P
          replace m9 := m9.step s173 nm0
          replace r101 := r101.mono s173.ex
          replace r112 := r112.mono s173.ex
          replace r114 := r114.mono s173.ex
          replace r116 := r116.mono s173.ex
          replace st := st.go s173 go0
          replace sj82 := sj82.go s173 go0
          replace w := s173.ok
          have sj160 := s173
          replace r170 := r170.mono sj160.ex
          refine h_gname ?_
          refine h_set1 ?_
          refine h_op ?_
          refine h_var rfl ?_
          refine h_lcE ?_
          refine h_call ?_
          refine h_cons ?_
          refine h_var rfl ?_
          refine h_cons ?_
          refine h_var rfl ?_
          refine h_cons ?_
          refine h_var rfl ?_
          refine h_cons ?_
          refine h_var rfl ?_
          refine h_nil ?_
          refine ⟨B171, u111, x90.a, u113, x90.b, u115, x90.c, v169, x168, w, rfl, r112, r114, r116, r170, (P.bind).mono (fun x181 P => ?_) (fun _ z => z)⟩
          refine fun v185 B182 H183 s184 r186 => ?_
          replace m9 := m9.step s184 nm0
          replace r101 := r101.mono s184.ex
          replace r112 := r112.mono s184.ex
          replace r114 := r114.mono s184.ex
          replace r116 := r116.mono s184.ex
          replace m175 := m175.step s184 nm0
          replace r170 := r170.mono s184.ex
          replace st := st.go s184 go0
          replace sj82 := sj82.go s184 go0
          replace sj160 := sj160.go s184 go0
          replace w := s184.ok
          obtain ⟨p187, xs188, rfl, hb189, hr190⟩ := Rep.sqB r186
          refine h_lcL P (w.l hb189) hr190 (fun Dl (acc : List (Tp2 Int Int)) (a : Unit) H' => ∃ B', Stp [] B182 H183 B' H' ∧ H183 Dl = none ∧ Mu K B' H' Dl (acc.map enc) ∧ p6 ≠ Dl ∧ p174 ≠ Dl) (fun Dl hD => ⟨_, Stp.newM w hD, hD, Mu.new w hD .nil, Mu.ne m9 hD, Mu.ne m175 hD⟩) (fun _ _ _ _ j => ?_) ?_ ?_
          · obtain ⟨B200, s201, hD202, m203, ne207, ne208⟩ := j
            exact s201.ok.l (s201.ex.l hb189)
          · rintro Dl191 N192 T193 x194 v195 acc197 a198 H199 ⟨B200, s201, hD202, m203, ne207, ne208⟩ r196 hz204 kk205 kn206 P
            have wj210 := w
            have sj209 := s201
            have n211 := st.nn hD202
            have n212 := sj82.nn hD202
            have n213 := sj160.nn hD202
            replace m9 := m9.step s201 nm0
            replace r101 := r101.mono s201.ex
            replace r112 := r112.mono s201.ex
            replace r114 := r114.mono s201.ex
            replace r116 := r116.mono s201.ex
            replace m175 := m175.step s201 nm0
            replace r170 := r170.mono s201.ex
            replace st := st.go s201 go0
            replace sj82 := sj82.go s201 go0
            replace sj160 := sj160.go s201 go0
            replace w := s201.ok
            replace r196 := r196.mono s201.ex
            refine h_gname ?_
            refine h_lcT rfl ?_
            refine h_call ?_
            refine h_cons ?_
            refine h_var rfl ?_
            refine h_cons ?_
            refine h_var rfl ?_
            refine h_nil ?_
            refine ⟨B200, v100, a89.2, v195, x194, w, rfl, r101, r196, (P.bind).mono (fun x214 P => ?_) (fun _ z => z)⟩
            refine fun v218 B215 H216 s217 r219 => ?_
            replace m9 := m9.step s217 nm0
            replace r101 := r101.mono s217.ex
            replace r112 := r112.mono s217.ex
            replace r114 := r114.mono s217.ex
            replace r116 := r116.mono s217.ex
            replace m175 := m175.step s217 nm0
            replace r170 := r170.mono s217.ex
            replace r196 := r196.mono s217.ex
            replace m203 := m203.step s217 nm0
            replace st := st.go s217 go0
            replace sj82 := sj82.go s217 go0
            replace sj160 := sj160.go s217 go0
            replace sj209 := sj209.go s217 go0
            replace w := s217.ok
            refine h_app (b := x214) w m203 r219 hz204 (fun H220 s221 m203 => ?_)
            replace m9 := m9.step s221 (nm1 ne207)
            replace r101 := r101.mono s221.ex
            replace r112 := r112.mono s221.ex
            replace r114 := r114.mono s221.ex
            replace r116 := r116.mono s221.ex
            replace m175 := m175.step s221 (nm1 ne208)
            replace r170 := r170.mono s221.ex
            replace r196 := r196.mono s221.ex
            replace st := st.go s221 (go1 (.inr n211))
            replace sj82 := sj82.go s221 (go1 (.inr n212))
            replace sj160 := sj160.go s221 (go1 (.inr n213))
            replace sj209 := sj209.go s221 (go1 (.inr hD202))
            replace w := s221.ok
            exact kk205 x214 () _ ⟨_, sj209, hD202, m203, ne207, ne208⟩ P.ok
          · rintro Dl191 acc197 a198 H199 ⟨B200, s201, hD202, m203, ne207, ne208⟩ P
            have n222 := st.nn hD202
            have n223 := sj82.nn hD202
            have n224 := sj160.nn hD202
            replace m9 := m9.step s201 nm0
            replace r101 := r101.mono s201.ex
            replace r112 := r112.mono s201.ex
            replace r114 := r114.mono s201.ex
            replace r116 := r116.mono s201.ex
            replace m175 := m175.step s201 nm0
            replace r170 := r170.mono s201.ex
            replace st := st.go s201 go0
            replace sj82 := sj82.go s201 go0
            replace sj160 := sj160.go s201 go0
            replace w := s201.ok
            replace P := P.un2
            obtain ⟨B229, e225, k226, g227, r228⟩ := Mu.keep m203
            replace st := g227 _ _ _ st w0 n222
            replace sj82 := g227 _ _ _ sj82 wj83 n223
            replace sj160 := g227 _ _ _ sj160 wj161 n224
            replace m9 := m9.kp e225 k226 ne207
            replace r101 := r101.mono e225
            replace r112 := r112.mono e225
            replace r114 := r114.mono e225
            replace r116 := r116.mono e225
            replace m175 := m175.kp e225 k226 ne208
            replace r170 := r170.mono e225
            replace w := st.ok
            replace r228 : Rep K B229 (.ref Dl191) (enc acc197) := r228
            obtain ⟨xs231, hv, hs232, hr233⟩ := Mu.sq m175
            obtain ⟨p234, xs235, hv, hs236, hr237⟩ := Rep.sq w r228
            cases hv
            obtain ⟨gd, P⟩ := P.guard
            refine h_cat hs232 hs236 (by have g := gd; simp only [hr233.length, hr237.length, List.length_map] at g ⊢; exact Nat.le_trans g (by decide)) ?_
            refine h_nwM w (ds := ((a167 ++ acc197)).map enc) (K := K) (RepL.cat hr233 hr237) (fun p238 H239 hn242 s240 m241 => ?_) 
            have n243 := st.nn hn242
            have n244 := sj82.nn hn242
            have n245 := sj160.nn hn242
            have ne246 := Mu.ne m9 hn242
            have ne247 := Mu.ne m175 hn242
            replace m9 := m9.step s240 nm0
            replace r101 := r101.mono s240.ex
            replace r112 := r112.mono s240.ex
            replace r114 := r114.mono s240.ex
            replace r116 := r116.mono s240.ex
            replace m175 := m175.step s240 nm0
            replace r170 := r170.mono s240.ex
            replace st := st.go s240 go0
            replace sj82 := sj82.go s240 go0
            replace sj160 := sj160.go s240 go0
            replace w := s240.ok
            refine h_nx ?_
            exact kk164 (a167 ++ acc197) _ _ ⟨_, p238, _, _, sj160, rfl, m241, n243, n244, ne246.symm⟩ P.ok
        · rintro a248 _ H250 ⟨B249, p252, o257, o258, s251, rfl, m253, n254, n255, ne256⟩ P
          replace m9 := m9.step s251 nm0
          replace r101 := r101.mono s251.ex
          replace r112 := r112.mono s251.ex
          replace r114 := r114.mono s251.ex
          replace r116 := r116.mono s251.ex
          replace st := st.go s251 go0
          replace sj82 := sj82.go s251 go0
          replace w := s251.ok
          refine h_nx ?_
          refine h_set1 ?_
          refine h_call ?_
          refine h_cons ?_
          refine h_var rfl ?_
          refine h_cons ?_
          refine h_var rfl ?_
          refine h_nil ?_
          refine ⟨B249, v100, a89.2, u111, x90.a, w, rfl, r101, r112, (P.bind).mono (fun x259 P => ?_) (fun _ z => z)⟩
          refine fun v263 B260 H261 s262 r264 => ?_
          replace m9 := m9.step s262 nm0
          replace r101 := r101.mono s262.ex
          replace r112 := r112.mono s262.ex
          replace r114 := r114.mono s262.ex
          replace r116 := r116.mono s262.ex
          replace m253 := m253.step s262 nm0
          replace st := st.go s262 go0
          replace sj82 := sj82.go s262 go0
          replace w := s262.ok
          refine h_nx ?_
          exact kk86 (a248, x259) _ _ ⟨_, p252, v263, _, _, _, _, _, sj82, rfl, m253, n254, ne256, r264⟩ P.ok
      · rintro a265 _ H267 ⟨B266, p269, v273, o275, o276, o277, o278, o279, s268, rfl, m270, n271, ne272, r274⟩ P
        replace m9 := m9.step s268 nm0
        replace st := st.go s268 go0
        replace w := s268.ok
        refine h_nx ?_
        refine h_seq ?_
        refine h_forE ?_
        refine h_var rfl ?_
        obtain ⟨p280, xs281, rfl, hb282, hr283⟩ := Rep.sqB (r_cells.mono st.ex)
        have wj285 := w
        have sj284 := Stp.refl (W := [p269]) w
        refine h_forL P (w.l hb282) hr283 (fun (a : (List (Tp2 Int Int))) σ' H' => ∃ (B' : Hp) (o__law_state : Option V) (o__law_cell : Option V), Stp [p269] B266 H267 B' H' ∧ σ' = [some ((.ref p78)), some ((.ref p12)), some ((.ref p280)), some ((.ref p6)), o277, o278, o279, some ((.ref p269)), some (v273), o275, o276, o__law_cell, o__law_state] ∧ Mu K B' H' p269 (a.map enc)) ⟨_, _, _, sj284, rfl, m270⟩ (fun _ _ _ j => ?_) ?_ ?_
        · obtain ⟨B295, o298, o299, s297, rfl, m270⟩ := j
          exact s297.ok.l (s297.ex.l hb282)
        · rintro N286 T287 x292 v293 a291 _ H296 ⟨B295, o298, o299, s297, rfl, m270⟩ r294 kk288 kr289 kb290 P
          replace m9 := m9.step s297 (nm1 ne272.symm)
          replace r274 := r274.mono s297.ex
          replace st := st.go s297 (go1 (.inr n271))
          replace w := s297.ok
          have sj284 := s297
          replace r294 := r294.mono sj284.ex
          cases r294
          refine h_gname ?_
          refine h_set ?_
          refine h_lst ?_
          refine h_cons ?_
          refine h_var rfl ?_
          refine h_nil ?_
          refine h_newM w (ds := (([x292] : List Int)).map enc) (K := K) (.cons (Rep.int _) .nil) (fun p300 H301 hn304 s302 m303 => ?_) (by show 1 ≤ sizeLine; decide)
          have n305 := st.nn hn304
          have n306 := sj284.nn hn304
          have ne307 := Mu.ne m9 hn304
          have ne308 := Mu.ne m270 hn304
          replace m9 := m9.step s302 nm0
          replace m270 := m270.step s302 nm0
          replace r274 := r274.mono s302.ex
          replace st := st.go s302 go0
          replace sj284 := sj284.go s302 go0
          replace w := s302.ok
          refine h_drop ?_
          refine h_bm ?_
          refine h_var rfl ?_
          refine h_bmL m270 ?_
          refine h_cons ?_
          refine h_call ?_
          refine h_cons ?_
          refine h_call ?_
          refine h_cons ?_
          refine h_var rfl ?_
          refine h_nil ?_
          refine ⟨B295, p300, ([x292] : List Int), w, rfl, m303, (P.bind).mono (fun x309 P => ?_) (fun _ z => z)⟩
          refine fun v313 B310 H311 s312 m303 r314 => ?_
          replace m9 := m9.step s312 (nm1 ne307)
          replace m270 := m270.step s312 (nm1 ne308)
          replace r274 := r274.mono s312.ex
          replace st := st.go s312 (go1 (.inr n305))
          replace sj284 := sj284.go s312 (go1 (.inr n306))
          replace w := s312.ok
          refine h_cons ?_
          refine h_call ?_
          refine h_cons ?_
          refine h_call ?_
          refine h_cons ?_
          refine h_var rfl ?_
          refine h_cons ?_
          refine h_c ?_
          refine h_nil ?_
          refine ⟨B310, p300, x309.2, 40, w, rfl, m303, (P.bind).mono (fun x315 P => ?_) (fun _ z => z)⟩
          refine fun v319 B316 H317 s318 m303 r320 => ?_
          replace m9 := m9.step s318 (nm1 ne307)
          replace m270 := m270.step s318 (nm1 ne308)
          replace r274 := r274.mono s318.ex
          replace r314 := r314.mono s318.ex
          replace st := st.go s318 (go1 (.inr n305))
          replace sj284 := sj284.go s318 (go1 (.inr n306))
          replace w := s318.ok
          cases r320
          refine h_cons ?_
          refine h_op ?_
          refine h_c ?_
          refine h_call ?_
          refine h_cons ?_
          refine h_var rfl ?_
          refine h_cons ?_
          refine h_c ?_
          refine h_nil ?_
          refine ⟨B316, p300, x315.2, 7, w, rfl, m303, (P.bind).mono (fun x321 P => ?_) (fun _ z => z)⟩
          refine fun v325 B322 H323 s324 m303 r326 => ?_
          replace m9 := m9.step s324 (nm1 ne307)
          replace m270 := m270.step s324 (nm1 ne308)
          replace r274 := r274.mono s324.ex
          replace r314 := r314.mono s324.ex
          replace st := st.go s324 (go1 (.inr n305))
          replace sj284 := sj284.go s324 (go1 (.inr n306))
          replace w := s324.ok
          cases r326
          refine h_I0 ?_
          refine h_nil ?_
          refine ⟨B322, x315.1, (1 + x321.1), w, rfl, (P.bind).mono (fun x327 P => ?_) (fun _ z => z)⟩
          refine fun v331 B328 H329 s330 r332 => ?_
          replace m9 := m9.step s330 nm0
          replace m270 := m270.step s330 nm0
          replace r274 := r274.mono s330.ex
          replace m303 := m303.step s330 nm0
          replace r314 := r314.mono s330.ex
          replace st := st.go s330 go0
          replace sj284 := sj284.go s330 go0
          replace w := s330.ok
          refine h_nil ?_
          refine ⟨B328, v313, x309.1, v331, x327, w, rfl, r314, r332, (P.bind).mono (fun x333 P => ?_) (fun _ z => z)⟩
          refine fun v337 B334 H335 s336 r338 => ?_
          replace m9 := m9.step s336 nm0
          replace m270 := m270.step s336 nm0
          replace r274 := r274.mono s336.ex
          replace m303 := m303.step s336 nm0
          replace r314 := r314.mono s336.ex
          replace r332 := r332.mono s336.ex
          replace st := st.go s336 go0
          replace sj284 := sj284.go s336 go0
          replace w := s336.ok
          refine h_nil ?_
          obtain ⟨gd, P⟩ := P.guard
          refine h_append (b := x333) w m270 r338 gd (fun H339 s340 m270 => ?_)
          replace m9 := m9.step s340 (nm1 ne272.symm)
          replace r274 := r274.mono s340.ex
          replace m303 := m303.step s340 (nm1 ne308.symm)
          replace st := st.go s340 (go1 (.inr n271))
          replace sj284 := sj284.go s340 (go1 (.inl (by simp)))
          replace w := s340.ok
          refine h_nx ?_
          exact kk288 (a291 ++ [x333]) _ _ ⟨_, _, _, sj284, rfl, m270⟩ P.ok
        · rintro a341 _ H343 ⟨B342, o345, o346, s344, rfl, m270⟩ P
          replace m9 := m9.step s344 (nm1 ne272.symm)
          replace r274 := r274.mono s344.ex
          replace st := st.go s344 (go1 (.inr n271))
          replace w := s344.ok
          refine h_nx ?_
          refine h_ret ?_
          refine h_op ?_
          refine h_var rfl ?_
          refine h_lst ?_
          refine h_cons ?_
          refine h_var rfl ?_
          refine h_cons ?_
          refine h_call ?_
          refine h_cons ?_
          refine h_var rfl ?_
          refine h_cons ?_
          refine h_tup ?_
          refine h_cons ?_
          refine h_c ?_
          refine h_cons ?_
          refine h_c ?_
          refine h_nil ?_
          refine h_newT w (K := K) (.cons (Rep.int _) (.cons (Rep.int _) .nil)) (fun p347 B348 H349 s350 r351 => ?_) (by show 2 ≤ sizeLine; decide)
          replace m9 := m9.step s350 nm0
          replace m270 := m270.step s350 nm0
          replace r274 := r274.mono s350.ex
          replace st := st.go s350 go0
          replace w := s350.ok
          replace r351 : Rep K B348 (.ref p347) (enc (⟨1, 3⟩ : (Tp2 Int Int))) := r351
          refine h_nil ?_
          refine ⟨B348, v273, a265.2, (.ref p347), (⟨1, 3⟩ : (Tp2 Int Int)), w, rfl, r274, r351, (P.bind).mono (fun x352 P => ?_) (fun _ z => z)⟩
          refine fun v356 B353 H354 s355 r357 => ?_
          replace m9 := m9.step s355 nm0
          replace m270 := m270.step s355 nm0
          replace r274 := r274.mono s355.ex
          replace r351 := r351.mono s355.ex
          replace st := st.go s355 go0
          replace w := s355.ok
          refine h_nil ?_
          refine h_newL w (ds := (([a265.2, x352] : List (Tp2 Int Int))).map enc) (K := K) (.cons r274 (.cons r357 .nil)) (fun p358 B359 H360 s361 r362 => ?_) (by show 2 ≤ sizeLine; decide)
          replace m9 := m9.step s361 nm0
          replace m270 := m270.step s361 nm0
          replace r274 := r274.mono s361.ex
          replace st := st.go s361 go0
          replace w := s361.ok
          replace r362 : Rep K B359 (.ref p358) (enc ([a265.2, x352] : List (Tp2 Int Int))) := r362
          obtain ⟨xs364, hv, hs365, hr366⟩ := Mu.sq m270
          obtain ⟨p367, xs368, hv, hs369, hr370⟩ := Rep.sq w r362
          cases hv
          obtain ⟨gd, P⟩ := P.guard
          refine h_cat hs365 hs369 (by have g := gd; simp only [hr366.length, hr370.length, List.length_map] at g ⊢; exact Nat.le_trans g (by decide)) ?_
          refine h_nwL w (ds := ((a341 ++ ([a265.2, x352] : List (Tp2 Int Int)))).map enc) (K := K) (RepL.cat hr366 hr370) (fun p371 B372 H373 s374 r375 => ?_) 
          replace m9 := m9.step s374 nm0
          replace m270 := m270.step s374 nm0
          replace r274 := r274.mono s374.ex
          replace st := st.go s374 go0
          replace w := s374.ok
          replace r375 : Rep K B372 (.ref p371) (enc (a341 ++ ([a265.2, x352] : List (Tp2 Int Int)))) := r375
          exact P.ok _ _ _ st r375
theorem ok__law_through {f : Addr} {fd : FuncData}  (F : Fun K "_law_through" "_law_through" s__law_through f fd) {f__law_led : Addr} {d__law_led : FuncData} (g__law_led : mg "_law_led" = some (.ref f__law_led)) (k__law_led : PySem.W.keepIn K (.ref f__law_led) = true) (b__law_led : L2.Binds K d__law_led ["_law_edits_here", "_law_t"] []) (G__law_led : FnOk Pr wo K mg base CX0 4 f__law_led d__law_led ["_law_edits_here", "_law_t"] (sp__law_led K)) : FnOk Pr wo K mg base CX0 5 f fd ["_law_above", "_law_below", "_law_t"] (sp__law_through K) := by
  refine F.ok sc__law_through (fun vs H Q E h => ?_) (fun cdv A outer s H0 vs Q E hr h => ?_)
  · obtain ⟨_, _, _, _, _, _, _, _, rfl, _⟩ := h; rfl
  · obtain ⟨B0, v_above, a_above, v_below, a_below, v_t, a_t, w, rfl, r_above, r_below, r_t, P⟩ := h
    have w0 := w
    have hu := hu_of hr
    have hu64 := hu64_of hr
    have hr4 : Room 4 _ := hr.mono (by decide)
    refine ⟨_, (pss_cons (ps_set (i := 3) sc__law_through.nd rfl (by first | exact Or.inl rfl | exact Or.inr rfl) (pe_call G__law_led hr4 rfl g__law_led k__law_led b__law_led .nil pass0 (pa_cons (pv 0) (pa_cons (pv 2) pa_nil))))
      (pss_cons (ps_if (pt_cmpR op_isNn (pv 3) pe_non (nomark _)) (pss_one (ps_ret pe_non)) pss_nil)
      (pss_one (ps_ret (pe_call G__law_led hr4 rfl g__law_led k__law_led b__law_led .nil pass0 (pa_cons (pv 1) (pa_cons (pv 3) pa_nil))))))), ?_⟩
    unfold l_through at P
    have st := Stp.refl (W := []) w
    refine h_set ?_
    refine h_call ?_
    refine h_cons ?_
    refine h_var rfl ?_
    refine h_cons ?_
    refine h_var rfl ?_
    refine h_nil ?_
    refine ⟨B0, v_above, a_above, v_t, a_t, w, rfl, (Rep.bor0 w (r_above.mono st.ex)), (r_t.mono st.ex), (P.bind).mono (fun x1 P => ?_) (fun _ z => z)⟩
    refine fun v5 B2 H3 s4 r6 => ?_
    replace st := st.go s4 go0
    replace w := s4.ok
    refine h_seq <| h_if ?_
    refine h_test ?_
    refine h_op ?_
    refine h_var rfl ?_
    refine h_c ?_
    refine h_isN r6 ?_
    refine h_bl ?_
    refine h_ite (fun c1 => ?_) (fun c1 => ?_)
    · replace P := P.iteT c1
      refine h_ret ?_
      refine h_c ?_
      exact P.ok _ _ _ st Rep.non
    · replace P := P.iteF c1
      refine h_next ?_
      refine h_nx ?_
      refine h_ret ?_
      refine h_call ?_
      refine h_cons ?_
      refine h_var rfl ?_
      refine h_cons ?_
      refine h_var rfl ?_
      refine h_nil ?_
      obtain ⟨x7, hx8, P⟩ := P.some
      have rc9 := r6
      rw [hx8] at rc9
      replace rc9 : Rep K B2 v5 (enc x7) := rc9
      refine ⟨B2, v_below, a_below, v5, x7, w, rfl, (Rep.bor0 w (r_below.mono st.ex)), rc9, (P.bind).mono (fun x10 P => ?_) (fun _ z => z)⟩
      refine fun v14 B11 H12 s13 r15 => ?_
      replace r6 := r6.mono s13.ex
      replace st := st.go s13 go0
      replace w := s13.ok
      exact P.ok _ _ _ st r15
theorem ok_law {f : Addr} {fd : FuncData}  (F : Fun K "law" "law" s_law f fd) {f__law_edits : Addr} {d__law_edits : FuncData} (g__law_edits : mg "_law_edits" = some (.ref f__law_edits)) (k__law_edits : PySem.W.keepIn K (.ref f__law_edits) = true) (b__law_edits : L2.Binds K d__law_edits ["_law_state", "_law_few"] []) (G__law_edits : FnOk Pr wo K mg base CX0 5 f__law_edits d__law_edits ["_law_state", "_law_few"] (sp__law_edits K)) {f_over : Addr} {d_over : FuncData} (g_over : mg "over" = some (.ref f_over)) (k_over : PySem.W.keepIn K (.ref f_over) = true) (b_over : L2.Binds K d_over ["outer", "inner"] []) (G_over : FnOk Pr wo K mg base (L2.CX Pr wo) 9 f_over d_over ["outer", "inner"] (sp_over K mg)) {f__law_moments : Addr} {d__law_moments : FuncData} (g__law_moments : mg "_law_moments" = some (.ref f__law_moments)) (k__law_moments : PySem.W.keepIn K (.ref f__law_moments) = true) (b__law_moments : L2.Binds K d__law_moments ["_law_above", "_law_below", "_law_cells"] []) (G__law_moments : FnOk Pr wo K mg base CX0 5 f__law_moments d__law_moments ["_law_above", "_law_below", "_law_cells"] (sp__law_moments K)) {f__law_cell_at : Addr} {d__law_cell_at : FuncData} (g__law_cell_at : mg "_law_cell_at" = some (.ref f__law_cell_at)) (k__law_cell_at : PySem.W.keepIn K (.ref f__law_cell_at) = true) (b__law_cell_at : L2.Binds K d__law_cell_at ["_law_script", "_law_k"] []) (G__law_cell_at : FnOk Pr wo K mg base CX0 1 f__law_cell_at d__law_cell_at ["_law_script", "_law_k"] (sp__law_cell_at K)) {f__law_is_tidy : Addr} {d__law_is_tidy : FuncData} (g__law_is_tidy : mg "_law_is_tidy" = some (.ref f__law_is_tidy)) (k__law_is_tidy : PySem.W.keepIn K (.ref f__law_is_tidy) = true) (b__law_is_tidy : L2.Binds K d__law_is_tidy ["_law_edits_here"] []) (G__law_is_tidy : FnOk Pr wo K mg base CX0 4 f__law_is_tidy d__law_is_tidy ["_law_edits_here"] (sp__law_is_tidy K)) {f__law_led : Addr} {d__law_led : FuncData} (g__law_led : mg "_law_led" = some (.ref f__law_led)) (k__law_led : PySem.W.keepIn K (.ref f__law_led) = true) (b__law_led : L2.Binds K d__law_led ["_law_edits_here", "_law_t"] []) (G__law_led : FnOk Pr wo K mg base CX0 4 f__law_led d__law_led ["_law_edits_here", "_law_t"] (sp__law_led K)) {f__law_through : Addr} {d__law_through : FuncData} (g__law_through : mg "_law_through" = some (.ref f__law_through)) (k__law_through : PySem.W.keepIn K (.ref f__law_through) = true) (b__law_through : L2.Binds K d__law_through ["_law_above", "_law_below", "_law_t"] []) (G__law_through : FnOk Pr wo K mg base CX0 5 f__law_through d__law_through ["_law_above", "_law_below", "_law_t"] (sp__law_through K)) (kb_over_0_inner_outer : KBinds K d_over ["outer", "inner"] ["inner", "outer"] (fun us ws => match us, ws with | [], [w0, w1] => [w1, w0] | _, _ => []) (fun us ws => match us, ws with | [], [w0, w1] => [w1, w0] | _, _ => [])) (bI_list : mg "list" = none) : FnOk Pr wo K mg base CX0 10 f fd ["_law_script"] (sp_law K) := by
  refine F.ok sc_law (fun vs H Q E h => ?_) (fun cdv A outer s H0 vs Q E hr h => ?_)
  · obtain ⟨_, _, _, _, rfl, _⟩ := h; rfl
  · obtain ⟨B0, v_script, a_script, w, rfl, r_script, P⟩ := h
    have w0 := w
    have hu := hu_of hr
    have hu64 := hu64_of hr
    have hr1 : Room 1 _ := hr.mono (by decide)
    have hr4 : Room 4 _ := hr.mono (by decide)
    have hr5 : Room 5 _ := hr.mono (by decide)
    have hr9 : Room 9 _ := hr.mono (by decide)
    refine ⟨_, (pss_cons (ps_set (i := 1) sc_law.nd rfl (by first | exact Or.inl rfl | exact Or.inr rfl) (pe_call G__law_edits hr5 rfl g__law_edits k__law_edits b__law_edits .nil pass0 (pa_cons (pe_lst (pa_cons (pe_call G__law_cell_at hr1 rfl g__law_cell_at k__law_cell_at b__law_cell_at .nil pass0 (pa_cons (pv 0) (pa_cons pe_int pa_nil))) pa_nil)) (pa_cons pe_int pa_nil))))
      (pss_cons (ps_set (i := 2) sc_law.nd rfl (by first | exact Or.inl rfl | exact Or.inr rfl) (pe_call G__law_edits hr5 rfl g__law_edits k__law_edits b__law_edits .nil pass0 (pa_cons (pe_lst (pa_cons (pe_call G__law_cell_at hr1 rfl g__law_cell_at k__law_cell_at b__law_cell_at .nil pass0 (pa_cons (pv 0) (pa_cons pe_int pa_nil))) pa_nil)) (pa_cons pe_int pa_nil))))
      (pss_cons (ps_set (i := 3) sc_law.nd rfl (by first | exact Or.inl rfl | exact Or.inr rfl) (pe_lst (pa_cons (pe_callTy (r := rListY K) cr_list (by rfl) bI_list Y.boot_list (pa_cons (pv 1) pa_nil)) (pa_cons (pe_callTy (r := rListY K) cr_list (by rfl) bI_list Y.boot_list (pa_cons (pv 2) pa_nil)) pa_nil))))
      (pss_cons (ps_set (i := 4) sc_law.nd rfl (by first | exact Or.inl rfl | exact Or.inr rfl) (pe_call G_over hr9 rfl g_over k_over b_over .nil passL (pa_cons (pe_ix (r := rIxL K) ix_list (pv 3) pe_int (fun _ _ => rfl)) (pa_cons (pe_ix (r := rIxL K) ix_list (pv 3) pe_int (fun _ _ => rfl)) pa_nil))))
      (pss_cons (ps_if (PW.pt (pw_or (pt_cmpR (r := rNeD K) (op_neD hu64) (pv 3) (pe_lst (pa_cons (pv 1) (pa_cons (pv 2) pa_nil))) (nomark _)) (pw_or1 (pt_not (pt_val (pe_call G__law_is_tidy hr4 rfl g__law_is_tidy k__law_is_tidy b__law_is_tidy .nil pass0 (pa_cons (pv 4) pa_nil))))))) (pss_one (ps_ret pe_bl)) pss_nil)
      (pss_cons (ps_for PassesOwn.never rfl (pi_list (pe_call G__law_moments hr5 rfl g__law_moments k__law_moments b__law_moments .nil pass0 (pa_cons (pv 1) (pa_cons (pv 2) (pa_cons (pe_slice (r := rSlQ K) sl_Q (pv 0) (po_some pe_int) (po_some pe_int)) pa_nil))))) (pg_name (i := 5) sc_law.nd rfl (by first | exact Or.inl rfl | exact Or.inr rfl)) (pss_one (ps_if (pt_cmpR (r := rNeD K) (op_neD hu64) (pe_call G__law_led hr4 rfl g__law_led k__law_led b__law_led .nil pass0 (pa_cons (pv 4) (pa_cons (pv 5) pa_nil))) (pe_call G__law_through hr5 rfl g__law_through k__law_through b__law_through .nil pass0 (pa_cons (pv 1) (pa_cons (pv 2) (pa_cons (pv 5) pa_nil)))) (nomark _)) (pss_one (ps_ret pe_bl)) pss_nil)))
      (pss_cons (ps_set (i := 6) sc_law.nd rfl (by first | exact Or.inl rfl | exact Or.inr rfl) (pe_callTy (r := rListY K) cr_list (by rfl) bI_list Y.boot_list (pa_cons (pv 4) pa_nil)))
      (pss_cons (ps_expr (pe_bm PySem.F.plainAttrs_list PySem.F.slot_list_append PySem.F.type_list_append mt_append (pv 4) (pa_cons (pe_tup (pa_cons (pe_tup (pa_cons pe_int (pa_cons pe_int pa_nil))) (pa_cons (pe_tup (pa_cons pe_int (pa_cons pe_int pa_nil))) (pa_cons (pe_tup (pa_cons pe_int (pa_cons pe_int pa_nil))) pa_nil)))) pa_nil)))
      (pss_cons (ps_if (pt_cmpR (r := rNeD K) (op_neD hu64) (pv 3) (pe_lst (pa_cons (pv 1) (pa_cons (pv 2) pa_nil))) (nomark _)) (pss_one (ps_ret pe_bl)) pss_nil)
      (pss_cons (ps_expr (pe_bm PySem.F.plainAttrs_list PySem.F.slot_list_append PySem.F.type_list_append mt_append (pe_ix (r := rIxL K) ix_list (pv 3) pe_int (fun _ _ => rfl)) (pa_cons (pe_tup (pa_cons (pe_tup (pa_cons pe_int (pa_cons pe_int pa_nil))) (pa_cons (pe_tup (pa_cons pe_int (pa_cons pe_int pa_nil))) (pa_cons (pe_tup (pa_cons pe_int (pa_cons pe_int pa_nil))) pa_nil)))) pa_nil)))
      (pss_one (ps_ret (pe_and (pe_cmpR (r := rEqD K) (op_eqD hu64) (pe_callK0 G_over hr9 rfl g_over k_over kb_over_0_inner_outer passL (pk_cons (pv 2) (pk_cons (pv 1) pk_nil))) (pv 6) (nomark _)) (pe_and (pe_cmpR (r := rEqD K) (op_eqD hu64) (pe_call G_over hr9 rfl g_over k_over b_over .nil passL (pa_cons (pv 1) (pa_cons (pe_lst pa_nil) pa_nil))) (pe_lst pa_nil) (nomark _)) (pe_one (pe_cmpR (r := rEqD K) (op_eqD hu64) (pe_call G_over hr9 rfl g_over k_over b_over .nil passL (pa_cons (pe_lst pa_nil) (pa_cons (pv 2) pa_nil))) (pe_lst pa_nil) (nomark _))))))))))))))))), ?_⟩
    unfold m_law at P
    have st := Stp.refl (W := []) w
    refine h_set ?_
    refine h_call ?_
    refine h_cons ?_
    refine h_lst ?_
    refine h_cons ?_
    refine h_call ?_
    refine h_cons ?_
    refine h_var rfl ?_
    refine h_cons ?_
    refine h_c ?_
    refine h_nil ?_
    refine ⟨B0, v_script, a_script, 0, w, rfl, ((r_script.step st).w sub0), (P.bind).mono (fun x1 P => ?_) (fun _ z => z)⟩
    refine fun v5 B2 H3 s4 r6 => ?_
    replace st := st.go s4 go0
    replace w := s4.ok
    cases r6
    refine h_nil ?_
    refine h_newM w (ds := (([x1] : List Int)).map enc) (K := K) (.cons (Rep.int _) .nil) (fun p7 H8 hn11 s9 m10 => ?_) (by show 1 ≤ sizeLine; decide)
    have n12 := st.nn hn11
    replace st := st.go s9 go0
    replace w := s9.ok
    refine h_cons ?_
    refine h_c ?_
    refine h_nil ?_
    refine ⟨B2, p7, ([x1] : List Int), 5, w, rfl, m10, (P.bind).mono (fun x13 P => ?_) (fun _ z => z)⟩
    refine fun v17 B14 H15 s16 m10 r18 => ?_
    replace st := st.go s16 (go1 (.inr n12))
    replace w := s16.ok
    refine h_set ?_
    refine h_call ?_
    refine h_cons ?_
    refine h_lst ?_
    refine h_cons ?_
    refine h_call ?_
    refine h_cons ?_
    refine h_var rfl ?_
    refine h_cons ?_
    refine h_c ?_
    refine h_nil ?_
    refine ⟨B14, v_script, a_script, 1, w, rfl, ((r_script.step st).w sub0), (P.bind).mono (fun x19 P => ?_) (fun _ z => z)⟩
    refine fun v23 B20 H21 s22 r24 => ?_
    replace r18 := r18.mono s22.ex
    replace st := st.go s22 go0
    replace w := s22.ok
    cases r24
    refine h_nil ?_
    refine h_newM w (ds := (([x19] : List Int)).map enc) (K := K) (.cons (Rep.int _) .nil) (fun p25 H26 hn29 s27 m28 => ?_) (by show 1 ≤ sizeLine; decide)
    have n30 := st.nn hn29
    replace r18 := r18.mono s27.ex
    replace st := st.go s27 go0
    replace w := s27.ok
    refine h_cons ?_
    refine h_c ?_
    refine h_nil ?_
    refine ⟨B20, p25, ([x19] : List Int), 5, w, rfl, m28, (P.bind).mono (fun x31 P => ?_) (fun _ z => z)⟩
    refine fun v35 B32 H33 s34 m28 r36 => ?_
    replace r18 := r18.mono s34.ex
    replace st := st.go s34 (go1 (.inr n30))
    replace w := s34.ok
    refine h_set ?_
    refine h_lst ?_
    refine h_cons ?_
    refine h_cb ?_
    refine h_cons ?_
    refine h_var rfl ?_
    refine h_nil ?_
    obtain ⟨p37, xs38, rfl, hs39, hr40⟩ := Rep.sq w r18
    refine h_listL hs39 ?_
    refine h_nwM w (ds := (x13.1).map enc) (K := K) hr40 (fun p41 H42 hn45 s43 m44 => ?_) 
    have n46 := st.nn hn45
    replace r18 := r18.mono s43.ex
    replace r36 := r36.mono s43.ex
    replace st := st.go s43 go0
    replace w := s43.ok
    refine h_cons ?_
    refine h_cb ?_
    refine h_cons ?_
    refine h_var rfl ?_
    refine h_nil ?_
    obtain ⟨p47, xs48, rfl, hs49, hr50⟩ := Rep.sq w r36
    refine h_listL hs49 ?_
    refine h_nwM w (ds := (x31.1).map enc) (K := K) hr50 (fun p51 H52 hn55 s53 m54 => ?_) 
    have n56 := st.nn hn55
    have ne57 := Mu.ne m44 hn55
    replace r18 := r18.mono s53.ex
    replace r36 := r36.mono s53.ex
    replace m44 := m44.step s53 nm0
    replace st := st.go s53 go0
    replace w := s53.ok
    refine h_nil ?_
    refine h_newRaw w (by show 2 ≤ sizeLine; decide) (fun p58 H59 hn60 s61 m62 => ?_)
    have n63 := st.nn hn60
    have ne64 := Mu.ne m44 hn60
    have ne65 := Mu.ne m54 hn60
    replace r18 := r18.mono s61.ex
    replace r36 := r36.mono s61.ex
    replace m44 := m44.step s61 nm0
    replace m54 := m54.step s61 nm0
    replace st := st.go s61 go0
    replace w := s61.ok
    refine h_set ?_
    refine h_call ?_
    refine h_cons ?_
    refine h_op ?_
    refine h_var rfl ?_
    refine h_c ?_
    refine h_ixL (Raw.sq m62) (by rfl) ?_
    refine h_cons ?_
    refine h_op ?_
    refine h_var rfl ?_
    refine h_c ?_
    refine h_ixL (Raw.sq m62) (by rfl) ?_
    refine h_nil ?_
    refine ⟨B32, (.ref p41), x13.1, (.ref p51), x31.1, w, rfl, (m44.bor nm0), (m54.bor nm0), (P.bind.noErr).mono (fun x66 P => ?_) (fun _ z => z.elim)⟩
    refine fun p72 B67 H68 s69 hn73 m74 => ?_
    have n76 := st.nn hn73
    have ne77 := Raw.ne m62 hn73
    have ne78 := Mu.ne m44 hn73
    have ne79 := Mu.ne m54 hn73
    replace r18 := r18.mono s69.ex
    replace r36 := r36.mono s69.ex
    replace m62 := m62.step s69 nm0
    replace m44 := m44.step s69 nm0
    replace m54 := m54.step s69 nm0
    replace st := st.go s69 go0
    replace w := s69.ok
    refine h_seq <| h_if ?_
    refine h_tor ?_
    refine h_test ?_
    refine h_op ?_
    refine h_var rfl ?_
    refine h_lst ?_
    refine h_cons ?_
    refine h_var rfl ?_
    refine h_cons ?_
    refine h_var rfl ?_
    refine h_nil ?_
    refine h_newL w (ds := (([x13.1, x31.1] : List (List (Tp3 (Tp2 Int Int) (Option (Tp2 Int Int)) (Tp2 Int Int))))).map enc) (K := K) (.cons r18 (.cons r36 .nil)) (fun p80 B81 H82 s83 r84 => ?_) (by show 2 ≤ sizeLine; decide)
    replace r18 := r18.mono s83.ex
    replace r36 := r36.mono s83.ex
    replace m62 := m62.step s83 nm0
    replace m44 := m44.step s83 nm0
    replace m54 := m54.step s83 nm0
    replace m74 := m74.step s83 nm0
    replace st := st.go s83 go0
    replace w := s83.ok
    replace r84 : Rep K B81 (.ref p80) (enc ([x13.1, x31.1] : List (List (Tp3 (Tp2 Int Int) (Option (Tp2 Int Int)) (Tp2 Int Int))))) := r84
    obtain ⟨gd, P⟩ := P.guard
    obtain ⟨xs86, hv, hs87, hr88⟩ := Mu.sq m44
    obtain ⟨xs90, hv, hs91, hr92⟩ := Mu.sq m54
    refine h_neC (d := (enc ([x13.1, x31.1] : List (List (Tp3 (Tp2 Int Int) (Option (Tp2 Int Int)) (Tp2 Int Int)))))) (e := (enc ([x13.1, x31.1] : List (List (Tp3 (Tp2 Int Int) (Option (Tp2 Int Int)) (Tp2 Int Int)))))) (Cmp.pair (Raw.sq m62) (SqL.cp w hs87 hr88) (SqL.cp w hs91 hr92)) (Rep.cp w r84) gd ?_
    refine h_bl ?_
    refine h_ite (fun c1 => ?_) (fun c1 => ?_)
    · replace P := P.iteT c1
      refine h_iteT ?_
      refine h_ret ?_
      refine h_c ?_
      exact P.ok _ _ _ st (Rep.bl _)
    · replace P := P.iteF c1
      refine h_tnot ?_
      refine h_tB ?_
      refine h_call ?_
      refine h_cons ?_
      refine h_var rfl ?_
      refine h_nil ?_
      refine ⟨B81, (.ref p72), x66, w, rfl, (m74.bor nm0), (P.bind).mono (fun x93 P => ?_) (fun _ z => z)⟩
      refine fun v97 B94 H95 s96 r98 => ?_
      replace r18 := r18.mono s96.ex
      replace r36 := r36.mono s96.ex
      replace m62 := m62.step s96 nm0
      replace m44 := m44.step s96 nm0
      replace m54 := m54.step s96 nm0
      replace m74 := m74.step s96 nm0
      replace st := st.go s96 go0
      replace w := s96.ok
      cases r98
      refine h_bl ?_
      refine h_iteN (fun c1 => ?_) (fun c1 => ?_)
      · replace P := P.iteF c1
        refine h_ret ?_
        refine h_c ?_
        exact P.ok _ _ _ st (Rep.bl _)
      · replace P := P.iteT c1
        refine h_next ?_
        refine h_nx ?_
        refine h_seq ?_
        refine h_forE ?_
        refine h_call ?_
        refine h_cons ?_
        refine h_var rfl ?_
        refine h_cons ?_
        refine h_var rfl ?_
        refine h_cons ?_
        refine h_sl ?_
        refine h_var rfl ?_
        refine h_part ?_
        refine h_c ?_
        refine h_isI ?_
        refine h_part ?_
        refine h_c ?_
        refine h_isI ?_
        obtain ⟨p99, xs100, rfl, hs101, hr102⟩ := Bor.sq (r_script.step st)
        refine h_slQ hs101 ?_
        refine h_nwL w (ds := ((cutL a_script (some 2) (some 12))).map enc) (K := K) (hr102.cut (some 2) (some 12)) (fun p103 B104 H105 s106 r107 => ?_) 
        replace r18 := r18.mono s106.ex
        replace r36 := r36.mono s106.ex
        replace m62 := m62.step s106 nm0
        replace m44 := m44.step s106 nm0
        replace m54 := m54.step s106 nm0
        replace m74 := m74.step s106 nm0
        replace st := st.go s106 go0
        replace w := s106.ok
        replace r107 : Rep K B104 (.ref p103) (enc (cutL a_script (some 2) (some 12))) := r107
        refine h_nil ?_
        refine ⟨B104, (.ref p37), x13.1, (.ref p47), x31.1, (.ref p103), (cutL a_script (some 2) (some 12)), w, rfl, r18, r36, r107, (P.bind).mono (fun x108 P => ?_) (fun _ z => z)⟩
        refine fun v112 B109 H110 s111 r113 => ?_
        replace r18 := r18.mono s111.ex
        replace r36 := r36.mono s111.ex
        replace m62 := m62.step s111 nm0
        replace m44 := m44.step s111 nm0
        replace m54 := m54.step s111 nm0
        replace m74 := m74.step s111 nm0
        replace r107 := r107.mono s111.ex
        replace st := st.go s111 go0
        replace w := s111.ok
        obtain ⟨p114, xs115, rfl, hb116, hr117⟩ := Rep.sqB r113
        have wj119 := w
        have sj118 := Stp.refl (W := []) w
        refine h_forL P (w.l hb116) hr117 (fun (a : Unit) σ' H' => ∃ (B' : Hp) (o__law_t : Option V), Stp [] B109 H110 B' H' ∧ σ' = [some ((.ref p99)), some ((.ref p37)), some ((.ref p47)), some ((.ref p58)), some ((.ref p72)), o__law_t, none]) ⟨_, _, sj118, rfl⟩ (fun _ _ _ j => ?_) ?_ ?_
        · obtain ⟨B129, o132, s131, rfl⟩ := j
          exact s131.ok.l (s131.ex.l hb116)
        · rintro N120 T121 x126 v127 a125 _ H130 ⟨B129, o132, s131, rfl⟩ r128 kk122 kr123 kb124 P
          replace r18 := r18.mono s131.ex
          replace r36 := r36.mono s131.ex
          replace m62 := m62.step s131 nm0
          replace m44 := m44.step s131 nm0
          replace m54 := m54.step s131 nm0
          replace m74 := m74.step s131 nm0
          replace st := st.go s131 go0
          replace w := s131.ok
          have sj118 := s131
          replace r128 := r128.mono sj118.ex
          refine h_gname ?_
          refine h_if ?_
          refine h_test ?_
          refine h_op ?_
          refine h_call ?_
          refine h_cons ?_
          refine h_var rfl ?_
          refine h_cons ?_
          refine h_var rfl ?_
          refine h_nil ?_
          refine ⟨B129, (.ref p72), x66, v127, x126, w, rfl, (m74.bor nm0), r128, (P.bind).mono (fun x133 P => ?_) (fun _ z => z)⟩
          refine fun v137 B134 H135 s136 r138 => ?_
          replace r18 := r18.mono s136.ex
          replace r36 := r36.mono s136.ex
          replace m62 := m62.step s136 nm0
          replace m44 := m44.step s136 nm0
          replace m54 := m54.step s136 nm0
          replace m74 := m74.step s136 nm0
          replace r128 := r128.mono s136.ex
          replace st := st.go s136 go0
          replace sj118 := sj118.go s136 go0
          replace w := s136.ok
          refine h_call ?_
          refine h_cons ?_
          refine h_var rfl ?_
          refine h_cons ?_
          refine h_var rfl ?_
          refine h_cons ?_
          refine h_var rfl ?_
          refine h_nil ?_
          refine ⟨B134, (.ref p37), x13.1, (.ref p47), x31.1, v127, x126, w, rfl, r18, r36, r128, (P.bind).mono (fun x139 P => ?_) (fun _ z => z)⟩
          refine fun v143 B140 H141 s142 r144 => ?_
          replace r18 := r18.mono s142.ex
          replace r36 := r36.mono s142.ex
          replace m62 := m62.step s142 nm0
          replace m44 := m44.step s142 nm0
          replace m54 := m54.step s142 nm0
          replace m74 := m74.step s142 nm0
          replace r128 := r128.mono s142.ex
          replace r138 := r138.mono s142.ex
          replace st := st.go s142 go0
          replace sj118 := sj118.go s142 go0
          replace w := s142.ok
          obtain ⟨gd, P⟩ := P.guard
          refine h_neD (d := (enc x133)) (e := (enc x139)) w r138 r144 gd ?_
          refine h_bl ?_
          refine h_ite (fun c1 => ?_) (fun c1 => ?_)
          · replace P := P.iteT c1
            refine h_ret ?_
            refine h_c ?_
            exact (kr123 _ P.ok) _ _ _ st (Rep.bl _)
          · replace P := P.iteF c1
            refine h_next ?_
            refine h_nx ?_
            exact kk122 () _ _ ⟨_, _, sj118, rfl⟩ P.ok
        · rintro a145 _ H147 ⟨B146, o149, s148, rfl⟩ P
          replace r18 := r18.mono s148.ex
          replace r36 := r36.mono s148.ex
          replace m62 := m62.step s148 nm0
          replace m44 := m44.step s148 nm0
          replace m54 := m54.step s148 nm0
          replace m74 := m74.step s148 nm0
          replace st := st.go s148 go0
          replace w := s148.ok
          refine h_nx ?_
          refine h_set ?_
          refine h_cb ?_
          refine h_cons ?_
          refine h_var rfl ?_
          refine h_nil ?_
          obtain ⟨xs151, hv, hs152, hr153⟩ := Mu.sq m74
          refine h_listL hs152 ?_
          refine h_nwL w (ds := (x66).map enc) (K := K) hr153 (fun p154 B155 H156 s157 r158 => ?_) 
          replace r18 := r18.mono s157.ex
          replace r36 := r36.mono s157.ex
          replace m62 := m62.step s157 nm0
          replace m44 := m44.step s157 nm0
          replace m54 := m54.step s157 nm0
          replace m74 := m74.step s157 nm0
          replace st := st.go s157 go0
          replace w := s157.ok
          replace r158 : Rep K B155 (.ref p154) (enc x66) := r158
          refine h_seq ?_
          refine h_drop ?_
          refine h_bm ?_
          refine h_var rfl ?_
          refine h_bmL m74 ?_
          refine h_cons ?_
          refine h_tup ?_
          refine h_cons ?_
          refine h_tup ?_
          refine h_cons ?_
          refine h_c ?_
          refine h_cons ?_
          refine h_c ?_
          refine h_nil ?_
          refine h_newT w (K := K) (.cons (Rep.int _) (.cons (Rep.int _) .nil)) (fun p159 B160 H161 s162 r163 => ?_) (by show 2 ≤ sizeLine; decide)
          replace r18 := r18.mono s162.ex
          replace r36 := r36.mono s162.ex
          replace m62 := m62.step s162 nm0
          replace m44 := m44.step s162 nm0
          replace m54 := m54.step s162 nm0
          replace m74 := m74.step s162 nm0
          replace r158 := r158.mono s162.ex
          replace st := st.go s162 go0
          replace w := s162.ok
          replace r163 : Rep K B160 (.ref p159) (enc (⟨1, 1⟩ : (Tp2 Int Int))) := r163
          refine h_cons ?_
          refine h_tup ?_
          refine h_cons ?_
          refine h_c ?_
          refine h_cons ?_
          refine h_c ?_
          refine h_nil ?_
          refine h_newT w (K := K) (.cons (Rep.int _) (.cons (Rep.int _) .nil)) (fun p164 B165 H166 s167 r168 => ?_) (by show 2 ≤ sizeLine; decide)
          replace r18 := r18.mono s167.ex
          replace r36 := r36.mono s167.ex
          replace m62 := m62.step s167 nm0
          replace m44 := m44.step s167 nm0
          replace m54 := m54.step s167 nm0
          replace m74 := m74.step s167 nm0
          replace r158 := r158.mono s167.ex
          replace r163 := r163.mono s167.ex
          replace st := st.go s167 go0
          replace w := s167.ok
          replace r168 : Rep K B165 (.ref p164) (enc (⟨1, 1⟩ : (Tp2 Int Int))) := r168
          refine h_cons ?_
          refine h_tup ?_
          refine h_cons ?_
          refine h_c ?_
          refine h_cons ?_
          refine h_c ?_
          refine h_nil ?_
          refine h_newT w (K := K) (.cons (Rep.int _) (.cons (Rep.int _) .nil)) (fun p169 B170 H171 s172 r173 => ?_) (by show 2 ≤ sizeLine; decide)
          replace r18 := r18.mono s172.ex
          replace r36 := r36.mono s172.ex
          replace m62 := m62.step s172 nm0
          replace m44 := m44.step s172 nm0
          replace m54 := m54.step s172 nm0
          replace m74 := m74.step s172 nm0
          replace r158 := r158.mono s172.ex
          replace r163 := r163.mono s172.ex
          replace r168 := r168.mono s172.ex
          replace st := st.go s172 go0
          replace w := s172.ok
          replace r173 : Rep K B170 (.ref p169) (enc (⟨1, 1⟩ : (Tp2 Int Int))) := r173
          refine h_nil ?_
          refine h_newT w (K := K) (.cons r163 (.cons r168 (.cons r173 .nil))) (fun p174 B175 H176 s177 r178 => ?_) (by show 3 ≤ sizeLine; decide)
          replace r18 := r18.mono s177.ex
          replace r36 := r36.mono s177.ex
          replace m62 := m62.step s177 nm0
          replace m44 := m44.step s177 nm0
          replace m54 := m54.step s177 nm0
          replace m74 := m74.step s177 nm0
          replace r158 := r158.mono s177.ex
          replace st := st.go s177 go0
          replace w := s177.ok
          replace r178 : Rep K B175 (.ref p174) (enc (⟨(⟨1, 1⟩ : (Tp2 Int Int)), (⟨1, 1⟩ : (Tp2 Int Int)), (⟨1, 1⟩ : (Tp2 Int Int))⟩ : (Tp3 (Tp2 Int Int) (Tp2 Int Int) (Tp2 Int Int)))) := r178
          refine h_nil ?_
          obtain ⟨gd, P⟩ := P.guard
          refine h_append (b := (⟨(⟨(⟨1, 1⟩ : (Tp2 Int Int)), (⟨1, 1⟩ : (Tp2 Int Int)), (⟨1, 1⟩ : (Tp2 Int Int))⟩ : (Tp3 (Tp2 Int Int) (Tp2 Int Int) (Tp2 Int Int))).a, (some ((⟨(⟨1, 1⟩ : (Tp2 Int Int)), (⟨1, 1⟩ : (Tp2 Int Int)), (⟨1, 1⟩ : (Tp2 Int Int))⟩ : (Tp3 (Tp2 Int Int) (Tp2 Int Int) (Tp2 Int Int))).b)), (⟨(⟨1, 1⟩ : (Tp2 Int Int)), (⟨1, 1⟩ : (Tp2 Int Int)), (⟨1, 1⟩ : (Tp2 Int Int))⟩ : (Tp3 (Tp2 Int Int) (Tp2 Int Int) (Tp2 Int Int))).c⟩ : (Tp3 (Tp2 Int Int) (Option (Tp2 Int Int)) (Tp2 Int Int)))) w m74 r178 gd (fun H179 s180 m74 => ?_)
          replace r18 := r18.mono s180.ex
          replace r36 := r36.mono s180.ex
          replace m62 := m62.step s180 (nm1 ne77)
          replace m44 := m44.step s180 (nm1 ne78)
          replace m54 := m54.step s180 (nm1 ne79)
          replace r158 := r158.mono s180.ex
          replace st := st.go s180 (go1 (.inr n76))
          replace w := s180.ok
          refine h_nx ?_
          refine h_seq <| h_if ?_
          refine h_test ?_
          refine h_op ?_
          refine h_var rfl ?_
          refine h_lst ?_
          refine h_cons ?_
          refine h_var rfl ?_
          refine h_cons ?_
          refine h_var rfl ?_
          refine h_nil ?_
          refine h_newL w (ds := (([x13.1, x31.1] : List (List (Tp3 (Tp2 Int Int) (Option (Tp2 Int Int)) (Tp2 Int Int))))).map enc) (K := K) (.cons r18 (.cons r36 .nil)) (fun p181 B182 H183 s184 r185 => ?_) (by show 2 ≤ sizeLine; decide)
          replace r18 := r18.mono s184.ex
          replace r36 := r36.mono s184.ex
          replace m62 := m62.step s184 nm0
          replace m44 := m44.step s184 nm0
          replace m54 := m54.step s184 nm0
          replace m74 := m74.step s184 nm0
          replace r158 := r158.mono s184.ex
          replace st := st.go s184 go0
          replace w := s184.ok
          replace r185 : Rep K B182 (.ref p181) (enc ([x13.1, x31.1] : List (List (Tp3 (Tp2 Int Int) (Option (Tp2 Int Int)) (Tp2 Int Int))))) := r185
          obtain ⟨gd, P⟩ := P.guard
          obtain ⟨xs187, hv, hs188, hr189⟩ := Mu.sq m44
          obtain ⟨xs191, hv, hs192, hr193⟩ := Mu.sq m54
          refine h_neC (d := (enc ([x13.1, x31.1] : List (List (Tp3 (Tp2 Int Int) (Option (Tp2 Int Int)) (Tp2 Int Int)))))) (e := (enc ([x13.1, x31.1] : List (List (Tp3 (Tp2 Int Int) (Option (Tp2 Int Int)) (Tp2 Int Int)))))) (Cmp.pair (Raw.sq m62) (SqL.cp w hs188 hr189) (SqL.cp w hs192 hr193)) (Rep.cp w r185) gd ?_
          refine h_bl ?_
          refine h_ite (fun c1 => ?_) (fun c1 => ?_)
          · replace P := P.iteT c1
            refine h_ret ?_
            refine h_c ?_
            exact P.ok _ _ _ st (Rep.bl _)
          · replace P := P.iteF c1
            refine h_next ?_
            refine h_nx ?_
            refine h_seq ?_
            refine h_drop ?_
            refine h_bm ?_
            refine h_op ?_
            refine h_var rfl ?_
            refine h_c ?_
            refine h_ixL (Raw.sq m62) (by rfl) ?_
            refine h_bmL m44 ?_
            refine h_cons ?_
            refine h_tup ?_
            refine h_cons ?_
            refine h_tup ?_
            refine h_cons ?_
            refine h_c ?_
            refine h_cons ?_
            refine h_c ?_
            refine h_nil ?_
            refine h_newT w (K := K) (.cons (Rep.int _) (.cons (Rep.int _) .nil)) (fun p194 B195 H196 s197 r198 => ?_) (by show 2 ≤ sizeLine; decide)
            replace r18 := r18.mono s197.ex
            replace r36 := r36.mono s197.ex
            replace m62 := m62.step s197 nm0
            replace m44 := m44.step s197 nm0
            replace m54 := m54.step s197 nm0
            replace m74 := m74.step s197 nm0
            replace r158 := r158.mono s197.ex
            replace st := st.go s197 go0
            replace w := s197.ok
            replace r198 : Rep K B195 (.ref p194) (enc (⟨9, 1⟩ : (Tp2 Int Int))) := r198
            refine h_cons ?_
            refine h_tup ?_
            refine h_cons ?_
            refine h_c ?_
            refine h_cons ?_
            refine h_c ?_
            refine h_nil ?_
            refine h_newT w (K := K) (.cons (Rep.int _) (.cons (Rep.int _) .nil)) (fun p199 B200 H201 s202 r203 => ?_) (by show 2 ≤ sizeLine; decide)
            replace r18 := r18.mono s202.ex
            replace r36 := r36.mono s202.ex
            replace m62 := m62.step s202 nm0
            replace m44 := m44.step s202 nm0
            replace m54 := m54.step s202 nm0
            replace m74 := m74.step s202 nm0
            replace r158 := r158.mono s202.ex
            replace r198 := r198.mono s202.ex
            replace st := st.go s202 go0
            replace w := s202.ok
            replace r203 : Rep K B200 (.ref p199) (enc (⟨0, 1⟩ : (Tp2 Int Int))) := r203
            refine h_cons ?_
            refine h_tup ?_
            refine h_cons ?_
            refine h_c ?_
            refine h_cons ?_
            refine h_c ?_
            refine h_nil ?_
            refine h_newT w (K := K) (.cons (Rep.int _) (.cons (Rep.int _) .nil)) (fun p204 B205 H206 s207 r208 => ?_) (by show 2 ≤ sizeLine; decide)
            replace r18 := r18.mono s207.ex
            replace r36 := r36.mono s207.ex
            replace m62 := m62.step s207 nm0
            replace m44 := m44.step s207 nm0
            replace m54 := m54.step s207 nm0
            replace m74 := m74.step s207 nm0
            replace r158 := r158.mono s207.ex
            replace r198 := r198.mono s207.ex
            replace r203 := r203.mono s207.ex
            replace st := st.go s207 go0
            replace w := s207.ok
            replace r208 : Rep K B205 (.ref p204) (enc (⟨1, 1⟩ : (Tp2 Int Int))) := r208
            refine h_nil ?_
            refine h_newT w (K := K) (.cons r198 (.cons r203 (.cons r208 .nil))) (fun p209 B210 H211 s212 r213 => ?_) (by show 3 ≤ sizeLine; decide)
            replace r18 := r18.mono s212.ex
            replace r36 := r36.mono s212.ex
            replace m62 := m62.step s212 nm0
            replace m44 := m44.step s212 nm0
            replace m54 := m54.step s212 nm0
            replace m74 := m74.step s212 nm0
            replace r158 := r158.mono s212.ex
            replace st := st.go s212 go0
            replace w := s212.ok
            replace r213 : Rep K B210 (.ref p209) (enc (⟨(⟨9, 1⟩ : (Tp2 Int Int)), (⟨0, 1⟩ : (Tp2 Int Int)), (⟨1, 1⟩ : (Tp2 Int Int))⟩ : (Tp3 (Tp2 Int Int) (Tp2 Int Int) (Tp2 Int Int)))) := r213
            refine h_nil ?_
            obtain ⟨gd, P⟩ := P.guard
            refine h_append (b := (⟨(⟨(⟨9, 1⟩ : (Tp2 Int Int)), (⟨0, 1⟩ : (Tp2 Int Int)), (⟨1, 1⟩ : (Tp2 Int Int))⟩ : (Tp3 (Tp2 Int Int) (Tp2 Int Int) (Tp2 Int Int))).a, (some ((⟨(⟨9, 1⟩ : (Tp2 Int Int)), (⟨0, 1⟩ : (Tp2 Int Int)), (⟨1, 1⟩ : (Tp2 Int Int))⟩ : (Tp3 (Tp2 Int Int) (Tp2 Int Int) (Tp2 Int Int))).b)), (⟨(⟨9, 1⟩ : (Tp2 Int Int)), (⟨0, 1⟩ : (Tp2 Int Int)), (⟨1, 1⟩ : (Tp2 Int Int))⟩ : (Tp3 (Tp2 Int Int) (Tp2 Int Int) (Tp2 Int Int))).c⟩ : (Tp3 (Tp2 Int Int) (Option (Tp2 Int Int)) (Tp2 Int Int)))) w m44 r213 gd (fun H214 s215 m44 => ?_)
            replace r18 := r18.mono s215.ex
            replace r36 := r36.mono s215.ex
            replace m62 := m62.step s215 (nm1 ne64.symm)
            replace m54 := m54.step s215 (nm1 ne57.symm)
            replace m74 := m74.step s215 (nm1 ne78.symm)
            replace r158 := r158.mono s215.ex
            replace st := st.go s215 (go1 (.inr n46))
            replace w := s215.ok
            refine h_nx ?_
            refine h_ret ?_
            refine h_and ?_
            refine h_op ?_
            refine h_callK0 ?_
            refine h_cons ?_
            refine h_var rfl ?_
            refine h_cons ?_
            refine h_var rfl ?_
            refine h_nil ?_
            refine ⟨B210, (.ref p37), x13.1, (.ref p47), x31.1, w, rfl, (Rep.bor0 w r18), (Rep.bor0 w r36), (P.bind.noErr).mono (fun x216 P => ?_) (fun _ z => z.elim)⟩
            refine fun p222 B217 H218 s219 hn223 m224 => ?_
            have n226 := st.nn hn223
            have ne227 := Raw.ne m62 hn223
            have ne228 := Mu.ne m44 hn223
            have ne229 := Mu.ne m54 hn223
            have ne230 := Mu.ne m74 hn223
            replace r18 := r18.mono s219.ex
            replace r36 := r36.mono s219.ex
            replace m62 := m62.step s219 nm0
            replace m44 := m44.step s219 nm0
            replace m54 := m54.step s219 nm0
            replace m74 := m74.step s219 nm0
            replace r158 := r158.mono s219.ex
            replace st := st.go s219 go0
            replace w := s219.ok
            obtain ⟨B235, e231, k232, g233, r234⟩ := Mu.keep m224
            replace st := g233 _ _ _ st w0 n226
            replace r18 := r18.mono e231
            replace r36 := r36.mono e231
            replace m62 := m62.kp e231 k232 ne227
            replace m44 := m44.kp e231 k232 ne228
            replace m54 := m54.kp e231 k232 ne229
            replace m74 := m74.kp e231 k232 ne230
            replace r158 := r158.mono e231
            replace w := st.ok
            replace r234 : Rep K B235 (.ref p222) (enc x216) := r234
            refine h_var rfl ?_
            obtain ⟨gd, P⟩ := P.guard
            refine h_eqD (d := (enc x216)) (e := (enc x66)) w r234 r158 gd ?_
            refine h_bl ?_
            refine h_ite (fun c1 => ?_) (fun c1 => ?_)
            · replace P := P.iteT c1
              refine h_and ?_
              refine h_op ?_
              refine h_call ?_
              refine h_cons ?_
              refine h_var rfl ?_
              refine h_cons ?_
              refine h_lst ?_
              refine h_nil ?_
              refine h_newL w (ds := (([] : List (Tp3 (Tp2 Int Int) (Option (Tp2 Int Int)) (Tp2 Int Int)))).map enc) (K := K) .nil (fun p236 B237 H238 s239 r240 => ?_) (by show 0 ≤ sizeLine; decide)
              replace r18 := r18.mono s239.ex
              replace r36 := r36.mono s239.ex
              replace m62 := m62.step s239 nm0
              replace m44 := m44.step s239 nm0
              replace m54 := m54.step s239 nm0
              replace m74 := m74.step s239 nm0
              replace r158 := r158.mono s239.ex
              replace st := st.go s239 go0
              replace w := s239.ok
              replace r240 : Rep K B237 (.ref p236) (enc ([] : List (Tp3 (Tp2 Int Int) (Option (Tp2 Int Int)) (Tp2 Int Int)))) := r240
              refine h_nil ?_
              refine ⟨B237, (.ref p37), x13.1, (.ref p236), ([] : List (Tp3 (Tp2 Int Int) (Option (Tp2 Int Int)) (Tp2 Int Int))), w, rfl, (Rep.bor0 w r18), (Rep.bor0 w r240), (P.bind.noErr).mono (fun x241 P => ?_) (fun _ z => z.elim)⟩
              refine fun p247 B242 H243 s244 hn248 m249 => ?_
              have n251 := st.nn hn248
              have ne252 := Raw.ne m62 hn248
              have ne253 := Mu.ne m44 hn248
              have ne254 := Mu.ne m54 hn248
              have ne255 := Mu.ne m74 hn248
              replace r18 := r18.mono s244.ex
              replace r36 := r36.mono s244.ex
              replace m62 := m62.step s244 nm0
              replace m44 := m44.step s244 nm0
              replace m54 := m54.step s244 nm0
              replace m74 := m74.step s244 nm0
              replace r158 := r158.mono s244.ex
              replace r240 := r240.mono s244.ex
              replace st := st.go s244 go0
              replace w := s244.ok
              obtain ⟨B260, e256, k257, g258, r259⟩ := Mu.keep m249
              replace st := g258 _ _ _ st w0 n251
              replace r18 := r18.mono e256
              replace r36 := r36.mono e256
              replace m62 := m62.kp e256 k257 ne252
              replace m44 := m44.kp e256 k257 ne253
              replace m54 := m54.kp e256 k257 ne254
              replace m74 := m74.kp e256 k257 ne255
              replace r158 := r158.mono e256
              replace w := st.ok
              replace r259 : Rep K B260 (.ref p247) (enc x241) := r259
              refine h_lst ?_
              refine h_nil ?_
              refine h_newL w (ds := (([] : List D)).map enc) (K := K) .nil (fun p261 B262 H263 s264 r265 => ?_) (by show 0 ≤ sizeLine; decide)
              replace r18 := r18.mono s264.ex
              replace r36 := r36.mono s264.ex
              replace m62 := m62.step s264 nm0
              replace m44 := m44.step s264 nm0
              replace m54 := m54.step s264 nm0
              replace m74 := m74.step s264 nm0
              replace r158 := r158.mono s264.ex
              replace r259 := r259.mono s264.ex
              replace st := st.go s264 go0
              replace w := s264.ok
              replace r265 : Rep K B262 (.ref p261) (enc ([] : List D)) := r265
              obtain ⟨gd, P⟩ := P.guard
              refine h_eqD (d := (enc x241)) (e := (enc ([] : List D))) w r259 r265 gd ?_
              refine h_bl ?_
              refine h_ite (fun c1 => ?_) (fun c1 => ?_)
              · replace P := P.iteT c1
                refine h_op ?_
                refine h_call ?_
                refine h_cons ?_
                refine h_lst ?_
                refine h_nil ?_
                refine h_newL w (ds := (([] : List (Tp3 (Tp2 Int Int) (Option (Tp2 Int Int)) (Tp2 Int Int)))).map enc) (K := K) .nil (fun p266 B267 H268 s269 r270 => ?_) (by show 0 ≤ sizeLine; decide)
                replace r18 := r18.mono s269.ex
                replace r36 := r36.mono s269.ex
                replace m62 := m62.step s269 nm0
                replace m44 := m44.step s269 nm0
                replace m54 := m54.step s269 nm0
                replace m74 := m74.step s269 nm0
                replace r158 := r158.mono s269.ex
                replace st := st.go s269 go0
                replace w := s269.ok
                replace r270 : Rep K B267 (.ref p266) (enc ([] : List (Tp3 (Tp2 Int Int) (Option (Tp2 Int Int)) (Tp2 Int Int)))) := r270
                refine h_cons ?_
                refine h_var rfl ?_
                refine h_nil ?_
                refine ⟨B267, (.ref p266), ([] : List (Tp3 (Tp2 Int Int) (Option (Tp2 Int Int)) (Tp2 Int Int))), (.ref p47), x31.1, w, rfl, (Rep.bor0 w r270), (Rep.bor0 w r36), (P.bind.noErr).mono (fun x271 P => ?_) (fun _ z => z.elim)⟩
                refine fun p277 B272 H273 s274 hn278 m279 => ?_
                have n281 := st.nn hn278
                have ne282 := Raw.ne m62 hn278
                have ne283 := Mu.ne m44 hn278
                have ne284 := Mu.ne m54 hn278
                have ne285 := Mu.ne m74 hn278
                replace r18 := r18.mono s274.ex
                replace r36 := r36.mono s274.ex
                replace m62 := m62.step s274 nm0
                replace m44 := m44.step s274 nm0
                replace m54 := m54.step s274 nm0
                replace m74 := m74.step s274 nm0
                replace r158 := r158.mono s274.ex
                replace r270 := r270.mono s274.ex
                replace st := st.go s274 go0
                replace w := s274.ok
                obtain ⟨B290, e286, k287, g288, r289⟩ := Mu.keep m279
                replace st := g288 _ _ _ st w0 n281
                replace r18 := r18.mono e286
                replace r36 := r36.mono e286
                replace m62 := m62.kp e286 k287 ne282
                replace m44 := m44.kp e286 k287 ne283
                replace m54 := m54.kp e286 k287 ne284
                replace m74 := m74.kp e286 k287 ne285
                replace r158 := r158.mono e286
                replace w := st.ok
                replace r289 : Rep K B290 (.ref p277) (enc x271) := r289
                refine h_lst ?_
                refine h_nil ?_
                refine h_newL w (ds := (([] : List D)).map enc) (K := K) .nil (fun p291 B292 H293 s294 r295 => ?_) (by show 0 ≤ sizeLine; decide)
                replace r18 := r18.mono s294.ex
                replace r36 := r36.mono s294.ex
                replace m62 := m62.step s294 nm0
                replace m44 := m44.step s294 nm0
                replace m54 := m54.step s294 nm0
                replace m74 := m74.step s294 nm0
                replace r158 := r158.mono s294.ex
                replace r289 := r289.mono s294.ex
                replace st := st.go s294 go0
                replace w := s294.ok
                replace r295 : Rep K B292 (.ref p291) (enc ([] : List D)) := r295
                obtain ⟨gd, P⟩ := P.guard
                refine h_eqD (d := (enc x271)) (e := (enc ([] : List D))) w r289 r295 gd ?_
                exact P.ok _ _ _ st (Rep.bl _)
              · replace P := P.iteF c1
                exact P.ok _ _ _ st (Rep.bl _)
            · replace P := P.iteF c1
              exact P.ok _ _ _ st (Rep.bl _)
end
end A
set_option Elab.async false
set_option linter.all false
set_option maxRecDepth 100000
set_option maxHeartbeats 2000000
namespace Y
open PySem PySem.Spec PyProof.Rows L2
open Enc (enc)
/-! # plain mathematics over mirrors -/
/-- m gives a value, and φ of it -/
def Ok {α : Type} (m : Res α) (φ : α → Prop) : Prop := ∃ a, m = .ok a ∧ φ a
section
variable {α β : Type} {m : Res α} {φ φ' : α → Prop} {k : α → Res β} {ψ : β → Prop} {a : α} {c : Bool} {i : Int} {l : List α}
theorem Ok.pure (h : φ a) : Ok (.ok a) φ := ⟨a, rfl, h⟩
theorem Ok.bind (h : Ok m φ) (hk : ∀ a, φ a → Ok (k a) ψ) : Ok (m.bind k) ψ := by
  obtain ⟨a, e, p⟩ := h
  rw [e]
  exact hk a p
theorem Ok.bindE (e : m = .ok a) (h : Ok (k a) ψ) : Ok (m.bind k) ψ := by rw [e]; exact h
theorem Ok.mono (h : Ok m φ) (hk : ∀ a, φ a → φ' a) : Ok m φ' := by
  obtain ⟨a, e, p⟩ := h
  exact ⟨a, e, hk a p⟩
theorem Ok.ite {m m' : Res α} (h1 : c = true → Ok m φ) (h2 : c = false → Ok m' φ) : Ok (if c = true then m else m') φ := by
  cases c
  · rw [if_neg Bool.false_ne_true]; exact h2 rfl
  · rw [if_pos rfl]; exact h1 rfl
theorem Ok.iteT {m m' : Res α} (hc : c = true) (h : Ok m φ) : Ok (if c = true then m else m') φ := by
  rw [if_pos hc]; exact h
theorem Ok.iteF {m m' : Res α} (hc : c = false) (h : Ok m' φ) : Ok (if c = true then m else m') φ := by
  rw [hc, if_neg Bool.false_ne_true]; exact h
theorem Ok.guard {p : Prop} [Decidable p] (hp : p) (h : Ok m φ) : Ok (guardR p m) φ := by
  unfold guardR; rw [if_pos hp]; exact h
theorem Ok.lt {d : α} (h : Ok (k d) ψ) : Ok (Y.lt d k) ψ := h
theorem Ok.noErr (h : Ok m φ) : Ok m.noErr φ := by
  obtain ⟨a, e, p⟩ := h
  exact ⟨a, by rw [e]; rfl, p⟩
theorem atI_in (h0 : 0 ≤ i) (h1 : i < (l.length : Int)) : ∃ x, atI l i = some x ∧ l[i.toNat]? = some x ∧ x ∈ l := by
  have h2 : i.toNat < l.length := by omega
  have e : ixN l.length i = some i.toNat := by unfold ixN; rw [if_pos h0, if_pos h1]
  refine ⟨l[i.toNat], ?_, List.getElem?_eq_getElem h2, List.getElem_mem h2⟩
  unfold atI
  rw [e]
  exact List.getElem?_eq_getElem h2
theorem Ok.ix (h0 : 0 ≤ i) (h1 : i < (l.length : Int)) (h : ∀ x, x ∈ l → l[i.toNat]? = some x → Ok (k x) ψ) : Ok ((ixR l i).bind k) ψ := by
  obtain ⟨x, e, e2, m⟩ := atI_in h0 h1
  unfold ixR
  rw [e]
  exact h x m e2
theorem Ok.ixs {x : α} (e : ixR l i = .ok x) (h : Ok (k x) ψ) : Ok ((ixR l i).bind k) ψ := by rw [e]; exact h
/-- an item of a written list -/
theorem Ok.ixm (h0 : 0 ≤ i) (h1 : i < (l.length : Int)) (h : ∀ x, x ∈ l → Ok (k x) ψ) : Ok ((ixR l i).bind k) ψ := Ok.ix h0 h1 fun x m _ => h x m
/-- a loop that keeps I and ends by itself -/
theorem Ok.for {S R : Type} {f : α → S → Res (Fl S R)} (I : S → Prop) (hf : ∀ x s, x ∈ l → I s → Ok (f x s) fun r => ∃ s', r = .nx s' ∧ I s') : ∀ {s : S}, I s → Ok (forR l s f) fun r => ∃ s', r = .nx s' ∧ I s' := by
  induction l with
  | nil => intro s h; exact ⟨_, rfl, s, rfl, h⟩
  | cons x xs ih =>
    intro s h
    refine Ok.bind (hf x s List.mem_cons_self h) ?_
    rintro r ⟨s', rfl, h'⟩
    exact ih (fun y s m h => hf y s (List.mem_cons_of_mem _ m) h) h'
/-- a comprehension: each turn gives a good thing and keeps I -/
theorem Ok.compL {S R : Type} {f : α → S → Res (Option R × S)} (I : S → Prop) (G : R → Prop) (hf : ∀ x s, x ∈ l → I s → Ok (f x s) fun r => I r.2 ∧ ∀ b, r.1 = some b → G b) : ∀ {s : S}, I s → Ok (compL l s f) fun r => I r.2 ∧ ∀ b ∈ r.1, G b := by
  induction l with
  | nil => intro s h; exact ⟨_, rfl, h, fun _ m => nomatch m⟩
  | cons x xs ih =>
    intro s h
    refine Ok.bind (hf x s List.mem_cons_self h) ?_
    rintro ⟨o, s'⟩ ⟨h', g⟩
    refine Ok.bind (ih (fun y s m h => hf y s (List.mem_cons_of_mem _ m) h) h') ?_
    rintro ⟨bs, s2⟩ ⟨h2, g2⟩
    refine ⟨_, rfl, h2, fun b m => ?_⟩
    cases o with
    | none => exact g2 b m
    | some b0 =>
      rcases List.mem_cons.mp m with e | m
      · rw [e]; exact g b0 rfl
      · exact g2 b m
theorem Ok.comp {S R : Type} {f : α → S → Res (Option R × S)} {s : S} (hl : l.length ≤ 1000000) (I : S → Prop) (G : R → Prop) (hf : ∀ x s, x ∈ l → I s → Ok (f x s) fun r => I r.2 ∧ ∀ b, r.1 = some b → G b) (h : I s) : Ok (compR l s f) fun r => I r.2 ∧ ∀ b ∈ r.1, G b := Ok.guard hl (Ok.compL I G hf h)
/-- .. and no more things than turns -/
theorem Ok.compLen {S R : Type} {f : α → S → Res (Option R × S)} {s : S} (hl : l.length ≤ 1000000) (I : S → Prop) (G : R → Prop) (hf : ∀ x s, x ∈ l → I s → Ok (f x s) fun r => I r.2 ∧ ∀ b, r.1 = some b → G b) (h : I s) : Ok (compR l s f) fun r => I r.2 ∧ (∀ b ∈ r.1, G b) ∧ r.1.length ≤ l.length := by
  refine Ok.guard hl ?_
  clear hl
  induction l generalizing s with
  | nil => exact ⟨_, rfl, h, (fun _ m => nomatch m), Nat.le_refl _⟩
  | cons x xs ih =>
    refine Ok.bind (hf x s List.mem_cons_self h) ?_
    rintro ⟨o, s'⟩ ⟨h', g⟩
    refine Ok.bind (ih (fun y s m h => hf y s (List.mem_cons_of_mem _ m) h) h') ?_
    rintro ⟨bs, s2⟩ ⟨h2, g2, g3⟩
    refine ⟨_, rfl, h2, fun b m => ?_, ?_⟩
    · cases o with
      | none => exact g2 b m
      | some b0 =>
        rcases List.mem_cons.mp m with e | m
        · rw [e]; exact g b0 rfl
        · exact g2 b m
    · cases o with
      | none => exact Nat.le_succ_of_le g3
      | some b0 => exact Nat.succ_le_succ g3
end
theorem log2_small {n b : Nat} (h : n < 2 ^ b) (h0 : 0 < b) : n.log2 < b := PySem.Flt.log2_lt_of h0 h
theorem mulW {i j : Int} {a b : Nat} (ha : i.natAbs < 2 ^ a) (hb : j.natAbs < 2 ^ b) (h0 : 0 < a := by decide) (h1 : 0 < b := by decide) (h : a + b ≤ 1000000 := by decide) : CMulW i j := wide_mul ha hb h0 h1 h
theorem divW {i j : Int} {b : Nat} (h : 0 < j) (hb : j.natAbs < 2 ^ b) (h0 : 0 < b := by decide) (h9 : b ≤ 9000 := by decide) : CDivW i j := wide_div h hb h0 h9
theorem cutL_mem {α : Type} {l : List α} {lo hi : Option Int} {x : α} (h : x ∈ cutL l lo hi) : x ∈ l := List.mem_of_mem_drop (List.mem_of_mem_take h)
theorem cutL_len {α : Type} {l : List α} {lo hi : Option Int} : (cutL l lo hi).length ≤ l.length := by
  unfold cutL
  rw [List.length_take, List.length_drop]
  omega
mutual
theorem eqv_refl : ∀ d : D, flatD d = true → PyData.eqv (pyD d) (pyD d) = true
  | .non, _ => rfl
  | .bl b, _ => by show (b == b) = true; simp
  | .int i, _ => by show (i == i) = true; simp
  | .str x, _ => by show (x == x) = true; simp
  | .lst ds, h => eqvs_refl ds h
  | .tup ds, h => eqvs_refl ds h
  | .dic _, h => nomatch h
theorem eqvs_refl : ∀ ds : List D, flatDs ds = true → PyData.eqvAll (pyDs ds) (pyDs ds) = true
  | [], _ => rfl
  | d :: ds, h => by
    have h' : (flatD d && flatDs ds) = true := h
    rw [Bool.and_eq_true] at h'
    show (PyData.eqv (pyD d) (pyD d) && PyData.eqvAll (pyDs ds) (pyDs ds)) = true
    rw [eqv_refl d h'.1, eqvs_refl ds h'.2]
    rfl
end
theorem eqD_refl {d : D} (h : flatD d = true) : eqD d d = true := eqv_refl d h
theorem flat_ints : ∀ l : List Int, flatDs (l.map enc) = true
  | [] => rfl
  | i :: l => by show (flatD (.int i) && flatDs (l.map enc)) = true; rw [flat_ints l]; rfl

mutual
/-- data that may be compared: no dict, texts plain, not deep -/
def eqOk (n : Nat) : D → Bool
  | .lst ds => match n with | 0 => false | n + 1 => eqOks n ds
  | .tup ds => match n with | 0 => false | n + 1 => eqOks n ds
  | .dic _ => false
  | .str x => PyData.strOk x
  | _ => true
def eqOks (n : Nat) : List D → Bool
  | [] => true
  | d :: ds => eqOk n d && eqOks n ds
end
mutual
theorem eqOk_flat : ∀ (d : D) (n : Nat), eqOk n d = true → flatD d = true ∧ (pyD d).canLay0 = true ∧ (pyD d).depth ≤ n
  | .non, _, _ => ⟨rfl, rfl, Nat.zero_le _⟩
  | .bl _, _, _ => ⟨rfl, rfl, Nat.zero_le _⟩
  | .int _, _, _ => ⟨rfl, rfl, Nat.zero_le _⟩
  | .str _, _, h => ⟨rfl, h, Nat.zero_le _⟩
  | .lst ds, n + 1, h => let ⟨a, b, c⟩ := eqOks_flat ds n h; ⟨a, b, Nat.succ_le_succ c⟩
  | .tup ds, n + 1, h => let ⟨a, b, c⟩ := eqOks_flat ds n h; ⟨a, b, Nat.succ_le_succ c⟩
  | .lst _, 0, h => nomatch h
  | .tup _, 0, h => nomatch h
  | .dic _, _, h => nomatch h
theorem eqOks_flat : ∀ (ds : List D) (n : Nat), eqOks n ds = true → flatDs ds = true ∧ PyData.canLayAll0 (pyDs ds) = true ∧ PyData.depthAll (pyDs ds) ≤ n
  | [], _, _ => ⟨rfl, rfl, Nat.zero_le _⟩
  | d :: ds, n, h => by
    have h' : (eqOk n d && eqOks n ds) = true := h
    rw [Bool.and_eq_true] at h'
    obtain ⟨a, b, c⟩ := eqOk_flat d n h'.1
    obtain ⟨a', b', c'⟩ := eqOks_flat ds n h'.2
    refine ⟨?_, ?_, ?_⟩
    · show (flatD d && flatDs ds) = true; rw [a, a']; rfl
    · show (PyData.canLay0 (pyD d) && PyData.canLayAll0 (pyDs ds)) = true; rw [b, b']; rfl
    · exact Nat.max_le.mpr ⟨c, c'⟩
end
theorem okEq_of {d e : D} (h : eqOk 20 d = true) (h' : eqOk 20 e = true) : okEq d e := by
  obtain ⟨a, b, c⟩ := eqOk_flat d 20 h
  obtain ⟨a', b', c'⟩ := eqOk_flat e 20 h'
  refine ⟨a, a', ?_, ?_⟩
  · unfold SeqAt.shaped; rw [b, decide_eq_true (Nat.le_trans c (by decide))]; rfl
  · unfold SeqAt.shaped; rw [b', decide_eq_true (Nat.le_trans c' (by decide))]; rfl
theorem eqOk_ints : ∀ (l : List Int) (n : Nat), eqOks n (l.map enc) = true
  | [], _ => rfl
  | i :: l, n => by show (eqOk n (.int i) && eqOks n (l.map enc)) = true; rw [eqOk_ints l n]; rfl
/-- a comprehension without a state whose turns give values -/
theorem compL_map {α β : Type} {f : α → Unit → Res (Option β × Unit)} {g : α → β} : ∀ {l : List α}, (∀ x ∈ l, f x () = .ok (some (g x), ())) → compL l () f = .ok (l.map g, ())
  | [], _ => rfl
  | x :: xs, h => by
    unfold compL
    rw [h x List.mem_cons_self]
    show ((compL xs () f).bind fun q => .ok (g x :: q.1, q.2)) = _
    rw [compL_map fun y m => h y (List.mem_cons_of_mem _ m)]
    rfl
theorem compR_map {α β : Type} {f : α → Unit → Res (Option β × Unit)} {g : α → β} {l : List α} (hl : l.length ≤ 1000000) (h : ∀ x ∈ l, f x () = .ok (some (g x), ())) : compR l () f = .ok (l.map g, ()) := by
  unfold compR guardR
  rw [if_pos hl, compL_map h]
def smallD (d : D) : Prop := match d with | .lst ds => ds.length ≤ 1000000 | _ => True
end Y

set_option Elab.async false
set_option linter.all false
set_option maxRecDepth 100000
set_option maxHeartbeats 2000000
namespace A
open PySem PySem.Spec PyProof.Rows L2 Y
open Y.Enc (enc)
/-- a state of draws -/
def Gd (st : List Int) : Prop := st.length = 1 ∨ st.length = 3
theorem setR_in {α : Type} {l : List α} {i : Int} {x : α} (h0 : 0 ≤ i) (h1 : i < (l.length : Int)) : setR l i x = .ok (l.set i.toNat x) := by
  unfold setR
  have e : ixN l.length i = some i.toNat := by unfold ixN; rw [if_pos h0, if_pos h1]
  rw [e]
theorem Ok.set {α β : Type} {l : List α} {i : Int} {x : α} {k : List α → Res β} {ψ : β → Prop} (h0 : 0 ≤ i) (h1 : i < (l.length : Int)) (h : ∀ l', l'.length = l.length → Ok (k l') ψ) : Ok ((setR l i x).bind k) ψ := by
  rw [setR_in h0 h1]
  exact h _ (List.length_set ..)
theorem digit_ok {st : List Int} {b : Int} (h : Gd st) (hb : 0 < b) (hb2 : b.natAbs < 2 ^ 4000) : Ok (l_digit st b) fun r => (0 ≤ r.1 ∧ r.1 < b) ∧ r.2.length = 3 := by
  unfold l_digit
  refine Ok.bind (φ := fun l => l.length = 3) (Ok.ite (fun c => ?_) (fun c => ?_)) fun l hl => ?_
  · have e : st.length = 1 := by have := of_decide_eq_true c; omega
    refine Ok.ix (by decide) (by omega) fun x _ _ => Ok.guard (by simp [e]) (Ok.pure (by simp [e]))
  · have e : ¬ (st.length : Int) = 1 := of_decide_eq_false c
    refine Ok.pure ?_
    rcases h with h | h
    · exact absurd (by omega) e
    · exact h
  refine Ok.ix (by decide) (by omega) fun x _ _ => Ok.ite (fun c => ?_) (fun c => ?_)
  · refine Ok.ix (by decide) (by omega) fun y _ _ => Ok.guard hb (Ok.lt (Ok.ix (by decide) (by omega) fun z _ _ => Ok.guard (divW hb hb2) (Ok.set (by decide) (by omega) fun l' e => Ok.pure ⟨⟨Int.emod_nonneg _ (Int.ne_of_gt hb), Int.emod_lt_of_pos _ hb⟩, e.trans hl⟩)))
  · refine Ok.ix (by decide) (by omega) fun y _ _ => Ok.set (by decide) (by omega) fun l' e => Ok.ix (by decide) (by omega) fun z _ _ => Ok.ix (by decide) (by omega) fun u _ _ => Ok.lt ?_
    generalize hn : (((z + 7919 * u) + 1) * 48271) % 2147483647 = n
    have hn1 : 0 ≤ n ∧ n < 2147483647 := by subst hn; exact ⟨Int.emod_nonneg _ (by decide), Int.emod_lt_of_pos _ (by decide)⟩
    refine Ok.guard (mulW (a := 32) (b := 32) (by omega) (by omega)) (Ok.lt ?_)
    generalize hm : (n * (n / 1009 + 69621)) % 2147483647 = m
    have hm1 : 0 ≤ m ∧ m < 2147483647 := by subst hm; exact ⟨Int.emod_nonneg _ (by decide), Int.emod_lt_of_pos _ (by decide)⟩
    refine Ok.guard (mulW (a := 32) (b := 32) (by omega) (by omega)) (Ok.guard hb (Ok.pure ⟨⟨Int.emod_nonneg _ (Int.ne_of_gt hb), Int.emod_lt_of_pos _ hb⟩, e.trans hl⟩))
theorem gd3 {st : List Int} (h : st.length = 3) : Gd st := .inr h
/-- a draw -/
theorem dg {β : Type} {st : List Int} {b : Int} {k : Int × List Int → Res β} {ψ : β → Prop} (h : Gd st) (hb : 0 < b) (hb2 : b.natAbs < 2 ^ 4000) (hk : ∀ x s, 0 ≤ x → x < b → s.length = 3 → Ok (k (x, s)) ψ) : Ok ((l_digit st b).bind k) ψ :=
  Ok.bind (digit_ok h hb hb2) fun r p => hk r.1 r.2 p.1.1 p.1.2 p.2
theorem big {b : Int} {n : Nat} (h : b.natAbs < 2 ^ n) (hn : n ≤ 4000) : b.natAbs < 2 ^ 4000 := Nat.lt_of_lt_of_le h (Nat.pow_le_pow_right (by decide) hn)
theorem bg {b : Int} (h : b.natAbs < 18446744073709551616) : b.natAbs < 2 ^ 4000 := big (n := 64) h (by decide)
end A

set_option Elab.async false
set_option linter.all false
set_option maxRecDepth 100000
set_option maxHeartbeats 2000000
namespace A
open PySem PySem.Spec PyProof.Rows L2 Y
open Y.Enc (enc)
theorem abs_eq (i : Int) : absI i = (i.natAbs : Int) := by unfold absI; split <;> omega
def euF {R : Type} : Int × Int → Res (Fl (Int × Int) R) := fun a12 => (if (decide (0 < a12.2)) = true then guardR (0 < a12.2) <| lt ((a12.1 % a12.2) : Int) fun x16 => (.ok (.nx (a12.2, x16)) : Res (Fl (Int × Int) R)) else .ok (.bk (a12.1, a12.2)))
theorem euclid {R : Type} (n : Nat) : ∀ a b : Nat, b < n → whileR n ((a : Int), (b : Int)) (euF (R := R)) = .ok (.bk (((Nat.gcd a b : Nat) : Int), 0)) := by
  induction n with
  | zero => intro a b h; omega
  | succ n ih =>
    intro a b h
    unfold whileR
    by_cases hb : 0 < (b : Int)
    · have e1 : euF (R := R) ((a : Int), (b : Int)) = .ok (.nx ((b : Int), (a : Int) % (b : Int))) := by
        unfold euF
        rw [if_pos (decide_eq_true hb)]
        unfold guardR
        rw [if_pos hb]
        rfl
      rw [e1]
      show whileR n ((b : Int), (a : Int) % (b : Int)) _ = _
      have e : (a : Int) % (b : Int) = ((a % b : Nat) : Int) := (Int.natCast_emod a b).symm
      rw [e, ih b (a % b) (by have := Nat.mod_lt a (show b > 0 by omega); omega)]
      rw [Nat.gcd_comm a b, Nat.gcd_rec b a, Nat.gcd_comm]
    · have : b = 0 := by omega
      subst this
      simp [euF]
      rfl
theorem div_ok (a b : Int) : m_divisor a b = .ok (Int.gcd a b : Int) := by
  have e0 : m_divisor a b = (whileR ((absI b).natAbs + 1) (absI a, absI b) euF).bind (afterR fun a17 => .ok a17.1) := rfl
  rw [e0, abs_eq, abs_eq, Int.natAbs_natCast, euclid (b.natAbs + 1) a.natAbs b.natAbs (by omega)]
  rfl
theorem frac_facts {a b : Int} (hb : b ≠ 0) : ∃ s : Int, (if b < 0 then -(Int.gcd a b : Int) else (Int.gcd a b : Int)) = s ∧ s ≠ 0 ∧ s.natAbs ≤ b.natAbs ∧ Int.fdiv a s * s = a ∧ Int.fdiv b s * s = b ∧ 0 < Int.fdiv b s ∧ Int.gcd (Int.fdiv a s) (Int.fdiv b s) = 1 := by
  have hg : 0 < Int.gcd a b := Int.gcd_pos_of_ne_zero_right a hb
  have ha' : ((Int.gcd a b : Nat) : Int) ∣ a := Int.gcd_dvd_left ..
  have hb' : ((Int.gcd a b : Nat) : Int) ∣ b := Int.gcd_dvd_right ..
  generalize hG : Int.gcd a b = g at *
  refine ⟨_, rfl, ?_⟩
  obtain ⟨p, ep⟩ := ha'
  obtain ⟨q, eq⟩ := hb'
  have hgn : (g : Int) ≠ 0 := by omega
  have hpq : Int.gcd p q = 1 := by
    have e : Int.gcd ((g : Int) * p) ((g : Int) * q) = g := by rw [← ep, ← eq]; exact hG
    rw [Int.gcd_mul_left] at e
    have e2 : g * Int.gcd p q = g * 1 := by simpa using e
    exact Nat.eq_of_mul_eq_mul_left hg e2
  have hle : g ≤ b.natAbs := by
    rw [eq, Int.natAbs_mul]
    have : 0 < q.natAbs := Int.natAbs_pos.mpr (by rintro rfl; exact hb (by rw [eq]; simp))
    simpa using Nat.le_mul_of_pos_right g this
  by_cases hn : b < 0
  · rw [if_pos hn]
    have e1 : a = -p * -(g : Int) := by rw [ep, Int.neg_mul_neg, Int.mul_comm]
    have e2 : b = -q * -(g : Int) := by rw [eq, Int.neg_mul_neg, Int.mul_comm]
    have d1 : Int.fdiv a (-(g : Int)) = -p := by rw [e1]; exact Int.mul_fdiv_cancel _ (by omega)
    have d2 : Int.fdiv b (-(g : Int)) = -q := by rw [e2]; exact Int.mul_fdiv_cancel _ (by omega)
    rw [d1, d2]
    refine ⟨by omega, by omega, e1.symm, e2.symm, ?_, by simpa using hpq⟩
    rcases Int.lt_or_le q 0 with h | h
    · omega
    · have := Int.mul_nonneg (show (0 : Int) ≤ g by omega) h
      rw [← eq] at this
      exact absurd hn (by omega)
  · rw [if_neg hn]
    have e1 : a = p * (g : Int) := by rw [ep, Int.mul_comm]
    have e2 : b = q * (g : Int) := by rw [eq, Int.mul_comm]
    have d1 : Int.fdiv a (g : Int) = p := by rw [e1]; exact Int.mul_fdiv_cancel _ hgn
    have d2 : Int.fdiv b (g : Int) = q := by rw [e2]; exact Int.mul_fdiv_cancel _ hgn
    rw [d1, d2]
    refine ⟨hgn, by omega, e1.symm, e2.symm, ?_, hpq⟩
    rcases Int.lt_or_le 0 q with h | h
    · exact h
    · have := Int.mul_nonneg (show (0 : Int) ≤ g by omega) (show 0 ≤ -q by omega)
      rw [Int.mul_neg, ← eq] at this
      exact absurd hn (by omega)
/-- the fraction of a by b, in lowest terms -/
def FracOf (a b : Int) (f : Tp2 Int Int) : Prop := 0 < f.b ∧ Int.gcd f.a f.b = 1 ∧ f.a * b = a * f.b ∧ f.a.natAbs ≤ a.natAbs ∧ f.b.natAbs ≤ b.natAbs
theorem natAbs_le_of_mul {x s a : Int} (h : x * s = a) (hs : s ≠ 0) : x.natAbs ≤ a.natAbs := by
  rw [← h, Int.natAbs_mul]
  exact Nat.le_mul_of_pos_right _ (by omega)
/-- what both places are shared by -/
def shr (a b : Int) : Int := if b < 0 then -(Int.gcd a b : Int) else (Int.gcd a b : Int)
def lowT (a b : Int) : Tp2 Int Int := ⟨Int.fdiv a (shr a b), Int.fdiv b (shr a b)⟩
theorem shr_small {a b : Int} (hb : b ≠ 0) : shr a b ≠ 0 ∧ (shr a b).natAbs ≤ b.natAbs := by
  obtain ⟨s, e, h0, h1, _⟩ := frac_facts (a := a) hb
  unfold shr
  rw [e]
  exact ⟨h0, h1⟩
theorem lowT_of {a b : Int} (hb : b ≠ 0) : FracOf a b (lowT a b) := by
  obtain ⟨s, e, h0, h1, h2, h3, h4, h5⟩ := frac_facts (a := a) hb
  have es : shr a b = s := e
  unfold lowT
  rw [es]
  refine ⟨h4, h5, ?_, natAbs_le_of_mul h2 h0, natAbs_le_of_mul h3 h0⟩
  show Int.fdiv a s * b = a * Int.fdiv b s
  conv => lhs; rw [← h3]
  conv => rhs; rw [← h2]
  simp only [Int.mul_comm, Int.mul_left_comm, Int.mul_assoc]
theorem shr_log {a b : Int} {n : Nat} (hb : b ≠ 0) (hs : b.natAbs < 2 ^ n) (h0 : 0 < n) (h9 : n ≤ 9000) : (shr a b).natAbs.log2 < 9000 := Nat.lt_of_lt_of_le (log2_small (b := n) (Nat.lt_of_le_of_lt (shr_small hb).2 hs) h0) h9
theorem shr_bind {β : Type} {a b : Int} {k : Int → Res β} : ((if (decide (b < 0)) = true then lt ((-(Int.gcd a b : Int)) : Int) fun x28 => .ok x28 else .ok (Int.gcd a b : Int)) : Res (Int)).bind k = k (shr a b) := by
  unfold shr
  by_cases hn : b < 0
  · rw [if_pos (decide_eq_true hn), if_pos hn]; rfl
  · rw [if_neg (by simpa using hn), if_neg hn]; rfl
theorem fraction_eq {a b : Int} {n : Nat} (hb : b ≠ 0) (hs : b.natAbs < 2 ^ n) (h0 : 0 < n := by decide) (h9 : n ≤ 9000 := by decide) : m_fraction (.int a) (.int b) = .ok (lowT a b) := by
  have r : m_fraction (.int a) (.int b) = guardR (okEq (.int b) (enc (0 : Int))) (if (eqD (.int b) (enc (0 : Int))) = true then .err ⟨"NoFraction", []⟩ else ((m_divisor a b).noErr).bind fun x19 => ((if (decide (b < 0)) = true then lt ((-x19) : Int) fun x28 => .ok x28 else .ok x19) : Res (Int)).bind fun a29 => guardR (CDivZ a a29) <| guardR (CDivZ b a29) <| .ok (⟨(Int.fdiv a a29), (Int.fdiv b a29)⟩ : (Tp2 Int Int))) := rfl
  rw [r]
  unfold guardR
  rw [if_pos (okEq_of rfl rfl), if_neg (show ¬ (eqD (.int b) (enc (0 : Int)) = true) from fun h => hb (of_decide_eq_true h)), div_ok]
  show (((if (decide (b < 0)) = true then lt ((-(Int.gcd a b : Int)) : Int) fun x28 => .ok x28 else .ok (Int.gcd a b : Int)) : Res (Int)).bind _) = _
  rw [shr_bind, if_pos ⟨(shr_small hb).1, shr_log hb hs h0 h9⟩, if_pos ⟨(shr_small hb).1, shr_log hb hs h0 h9⟩]
  rfl
theorem dvd_of_cop {q p r : Int} (h : q ∣ p * r) (hg : Int.gcd p q = 1) : q ∣ r := by
  have h1 : q.natAbs ∣ p.natAbs * r.natAbs := by rw [← Int.natAbs_mul]; exact Int.natAbs_dvd_natAbs.mpr h
  have h2 : Nat.Coprime q.natAbs p.natAbs := (Nat.gcd_comm ..).trans hg
  exact Int.natAbs_dvd_natAbs.mp (Nat.Coprime.dvd_of_dvd_mul_left h2 h1)
theorem uniq {p q p' q' : Int} (h : p * q' = p' * q) (hg : Int.gcd p q = 1) (hg' : Int.gcd p' q' = 1) (hq : 0 < q) (hq' : 0 < q') : p = p' ∧ q = q' := by
  have d1 : q ∣ q' := dvd_of_cop ⟨p', by rw [h, Int.mul_comm]⟩ hg
  have d2 : q' ∣ q := dvd_of_cop ⟨p, by rw [← h, Int.mul_comm]⟩ hg'
  have e : q = q' := Int.dvd_antisymm (by omega) (by omega) d1 d2
  subst e
  exact ⟨Int.eq_of_mul_eq_mul_right (by omega) h, rfl⟩
/-- in lowest terms -/
def Low (f : Tp2 Int Int) : Prop := 0 < f.b ∧ Int.gcd f.a f.b = 1
theorem low_eq {f : Tp2 Int Int} {a b : Int} (hf : Low f) (hb : b ≠ 0) (h : f.a * b = a * f.b) : lowT a b = f := by
  obtain ⟨h1, h2, h3, _, _⟩ := lowT_of (a := a) hb
  generalize lowT a b = g at *
  obtain ⟨p, q⟩ := g
  obtain ⟨u, v⟩ := f
  obtain ⟨hv, hg⟩ := hf
  simp only at *
  have e : p * v = u * q := by
    apply Int.eq_of_mul_eq_mul_right hb
    grind
  obtain ⟨rfl, rfl⟩ := uniq e h2 hg h1 hv
  rfl
end A

set_option Elab.async false
set_option linter.all false
set_option maxRecDepth 100000
set_option maxHeartbeats 2000000
namespace A
/-! # edits over plain fractions -/
structure Er where
  s : Rat
  b : Option Rat
  r : Rat
def byR (e : Er) (t : Rat) : Option Rat := match e.b with | none => none | some x => some (x + e.r * t)
def ledR : List Er → Rat → Option Rat
  | [], _ => none
  | e :: l, t => if t < e.s then byR e t else ledR l (t - e.s)
def sumR : List Er → Rat | [] => 0 | e :: l => e.s + sumR l
structure GoodE (e : Er) : Prop where
  s : 0 < e.s
  r : 0 ≤ e.r
  b : ∀ x, e.b = some x → 0 ≤ x
  n : e.b = none → e.r = 0
def onB (e f : Er) : Bool := match e.b, f.b with
  | none, none => true
  | some x, some y => decide (e.r = f.r) && decide (y = x + e.r * e.s)
  | _, _ => false
def mergeR (a e : Er) : Er := ⟨a.s + e.s, a.b, a.r⟩
def pushR (st : List Er) (e : Er) : List Er := match st with
  | [] => [e]
  | a :: r => if onB a e = true then mergeR a e :: r else e :: a :: r
def noLast : List Er → List Er | [] => [] | a :: r => if a.b = none then r else a :: r
theorem noLast_cons (a : Er) (r : List Er) : noLast (a :: r) = if a.b = none then r else a :: r := rfl
def tidyR (l : List Er) : List Er := (noLast (l.foldl pushR [])).reverse
def TidyR : List Er → Prop
  | [] => True
  | [e] => e.b ≠ none
  | e :: f :: l => onB e f = false ∧ TidyR (f :: l)
theorem onB_merge (b a e : Er) : onB b (mergeR a e) = onB b a := rfl
theorem ledR_congr {m m' : List Er} (h : ∀ t, ledR m t = ledR m' t) : ∀ (l : List Er) (t : Rat), ledR (l ++ m) t = ledR (l ++ m') t
  | [], t => h t
  | e :: l, t => by
    show (if t < e.s then byR e t else ledR (l ++ m) (t - e.s)) = (if t < e.s then byR e t else ledR (l ++ m') (t - e.s))
    rw [ledR_congr h l]
theorem led_merge {a e : Er} (h : onB a e = true) (he : 0 < e.s) (l : List Er) (t : Rat) : ledR (mergeR a e :: l) t = ledR (a :: e :: l) t := by
  show (if t < a.s + e.s then byR (mergeR a e) t else ledR l (t - (a.s + e.s))) = (if t < a.s then byR a t else if t - a.s < e.s then byR e (t - a.s) else ledR l (t - a.s - e.s))
  have e1 : t - (a.s + e.s) = t - a.s - e.s := by grind
  by_cases c : t < a.s
  · rw [if_pos c, if_pos (show t < a.s + e.s by grind)]; rfl
  · rw [if_neg c, e1]
    by_cases c2 : t - a.s < e.s
    · rw [if_pos c2, if_pos (show t < a.s + e.s by grind)]
      show byR a t = byR e (t - a.s)
      unfold onB at h
      unfold byR
      revert h
      cases a.b <;> cases e.b <;> intro h <;> simp only [Bool.and_eq_true, decide_eq_true_eq] at h ⊢
      · contradiction
      · contradiction
      · rename_i x y
        obtain ⟨h1, h2⟩ := h
        rw [h2, ← h1]
        congr 1
        grind
    · rw [if_neg c2, if_neg (show ¬ t < a.s + e.s by grind)]
theorem led_push {st : List Er} {e : Er} (he : 0 < e.s) (l : List Er) (t : Rat) : ledR ((pushR st e).reverse ++ l) t = ledR (st.reverse ++ e :: l) t := by
  unfold pushR
  cases st with
  | nil => rfl
  | cons a r =>
    simp only
    by_cases c : onB a e = true
    · rw [if_pos c]
      simp only [List.reverse_cons, List.append_assoc, List.singleton_append]
      exact ledR_congr (fun t => led_merge c he l t) _ t
    · rw [if_neg c]
      simp only [List.reverse_cons, List.append_assoc, List.singleton_append, List.cons_append, List.nil_append]
theorem led_fold : ∀ (l st : List Er), (∀ e ∈ l, 0 < e.s) → ∀ t, ledR (l.foldl pushR st).reverse t = ledR (st.reverse ++ l) t
  | [], st, _, t => by rw [List.append_nil]; rfl
  | e :: l, st, h, t => by
    rw [List.foldl_cons, led_fold l _ (fun y m => h y (List.mem_cons_of_mem _ m)), led_push (h e List.mem_cons_self)]
theorem led_blank {e : Er} (h : e.b = none) : ∀ (l : List Er) (t : Rat), ledR (l ++ [e]) t = ledR l t
  | [], t => by
    show (if t < e.s then byR e t else none) = none
    have : byR e t = none := by unfold byR; rw [h]
    rw [this]
    split <;> rfl
  | a :: l, t => by
    show (if t < a.s then byR a t else ledR (l ++ [e]) (t - a.s)) = (if t < a.s then byR a t else ledR l (t - a.s))
    rw [led_blank h l]
theorem led_noLast (st : List Er) (t : Rat) : ledR (noLast st).reverse t = ledR st.reverse t := by
  cases st with
  | nil => rfl
  | cons a r =>
    rw [noLast_cons]
    by_cases c : a.b = none
    · rw [if_pos c, List.reverse_cons, led_blank c]
    · rw [if_neg c]
/-- a tidied list leads alike -/
theorem led_tidy {l : List Er} (h : ∀ e ∈ l, 0 < e.s) (t : Rat) : ledR (tidyR l) t = ledR l t := by
  unfold tidyR
  rw [led_noLast, led_fold l [] h]
  rfl
def SOk : List Er → Prop
  | [] => True
  | [_] => True
  | a :: b :: r => onB b a = false ∧ SOk (b :: r)
theorem push_ok {st : List Er} {e : Er} (h : SOk st) : SOk (pushR st e) := by
  unfold pushR
  cases st with
  | nil => trivial
  | cons a r =>
    simp only
    by_cases c : onB a e = true
    · rw [if_pos c]
      cases r with
      | nil => trivial
      | cons b r => exact ⟨by rw [onB_merge]; exact h.1, h.2⟩
    · rw [if_neg c]
      exact ⟨by simpa using c, h⟩
theorem fold_ok : ∀ (l st : List Er), SOk st → SOk (l.foldl pushR st)
  | [], _, h => h
  | _ :: l, _, h => fold_ok l _ (push_ok h)
theorem SOk.tail {a : Er} {r : List Er} (h : SOk (a :: r)) : SOk r := by
  cases r with
  | nil => trivial
  | cons b r => exact h.2
theorem rev_tidy : ∀ (st l : List Er), SOk st → TidyR l → (∀ a r, st = a :: r → match l with | [] => a.b ≠ none | f :: _ => onB a f = false) → TidyR (st.reverse ++ l)
  | [], l, _, hl, _ => hl
  | a :: r, l, h, hl, hh => by
    rw [List.reverse_cons, List.append_assoc]
    refine rev_tidy r (a :: l) h.tail ?_ ?_
    · have := hh a r rfl
      cases l with
      | nil => exact this
      | cons f l => exact ⟨this, hl⟩
    · rintro b r' rfl
      exact h.1
theorem noLast_ok {st : List Er} (h : SOk st) : SOk (noLast st) := by
  cases st with
  | nil => trivial
  | cons a r =>
    rw [noLast_cons]
    by_cases c : a.b = none
    · rw [if_pos c]; exact h.tail
    · rw [if_neg c]; exact h
theorem tidy_tidy (l : List Er) : TidyR (tidyR l) := by
  have h0 := fold_ok l [] trivial
  unfold tidyR
  generalize l.foldl pushR [] = st at *
  have := rev_tidy (noLast st) [] (noLast_ok h0) trivial ?_
  · rw [List.append_nil] at this; exact this
  rintro a r e
  cases st with
  | nil => exact nomatch e
  | cons b q =>
    rw [noLast_cons] at e
    by_cases c : b.b = none
    · rw [if_pos c] at e
      subst e
      have := h0.1
      unfold onB at this
      rw [c] at this
      intro z
      rw [z] at this
      exact nomatch this
    · rw [if_neg c] at e
      cases e
      exact c
theorem push_good {st : List Er} {e : Er} (h : ∀ x ∈ st, GoodE x) (he : GoodE e) : ∀ x ∈ pushR st e, GoodE x := by
  intro x m
  unfold pushR at m
  cases st with
  | nil => rw [List.mem_singleton.mp m]; exact he
  | cons a r =>
    simp only at m
    by_cases c : onB a e = true
    · rw [if_pos c] at m
      rcases List.mem_cons.mp m with rfl | m
      · have ha := h a List.mem_cons_self
        exact ⟨by show 0 < a.s + e.s; have := ha.s; have := he.s; grind, ha.r, ha.b, ha.n⟩
      · exact h x (List.mem_cons_of_mem _ m)
    · rw [if_neg c] at m
      rcases List.mem_cons.mp m with rfl | m
      · exact he
      · exact h x m
theorem fold_good : ∀ (l st : List Er), (∀ x ∈ st, GoodE x) → (∀ x ∈ l, GoodE x) → ∀ x ∈ l.foldl pushR st, GoodE x
  | [], _, h, _ => h
  | e :: l, st, h, hl => fold_good l _ (push_good h (hl e List.mem_cons_self)) fun y m => hl y (List.mem_cons_of_mem _ m)
theorem noLast_mem {st : List Er} {x : Er} (m : x ∈ noLast st) : x ∈ st := by
  cases st with
  | nil => exact m
  | cons a r =>
    rw [noLast_cons] at m
    by_cases c : a.b = none
    · rw [if_pos c] at m; exact List.mem_cons_of_mem _ m
    · rw [if_neg c] at m; exact m
theorem tidy_good {l : List Er} (h : ∀ x ∈ l, GoodE x) : ∀ x ∈ tidyR l, GoodE x := fun x m =>
  fold_good l [] (fun _ m => nomatch m) h x (noLast_mem (List.mem_reverse.mp m))
theorem led_cons_lt {e : Er} {l : List Er} {t : Rat} (h : t < e.s) : ledR (e :: l) t = byR e t := if_pos h
theorem led_cons_ge {e : Er} {l : List Er} {t : Rat} (h : e.s ≤ t) : ledR (e :: l) t = ledR l (t - e.s) := if_neg (show ¬ t < e.s by grind)
/-- two edits that lead alike from 0 to somewhere start alike -/
theorem by_eq {e f : Er} {w : Rat} (he : GoodE e) (hf : GoodE f) (hw : 0 < w) (h : ∀ t, 0 ≤ t → t < w → byR e t = byR f t) : e.b = f.b ∧ e.r = f.r := by
  have h0 := h 0 (by grind) hw
  have h1 := h (w / 2) (by grind) (by grind)
  have en := he.n
  have fn := hf.n
  unfold byR at h0 h1
  revert h0 h1 en fn
  cases e.b <;> cases f.b <;> intro h0 h1 en fn <;> simp only [Option.some.injEq, reduceCtorEq] at *
  · exact ⟨trivial, by rw [en trivial, fn trivial]⟩
  · rename_i x y
    have exy : x = y := by grind
    refine ⟨exy, ?_⟩
    subst exy
    have e1 : e.r * (w / 2) = f.r * (w / 2) := by grind
    have e2 : (e.r - f.r) * (w / 2) = 0 := by grind
    rcases Rat.mul_eq_zero.mp e2 with z | z
    · grind
    · grind
theorem tidy_tail {e : Er} {l : List Er} (h : TidyR (e :: l)) : TidyR l := by
  cases l with
  | nil => trivial
  | cons f l => exact h.2
/-- a tidy list that leads nowhere is empty -/
theorem tidy_nil {l : List Er} (h : TidyR l) (g : ∀ e ∈ l, GoodE e) (z : ∀ t, 0 ≤ t → ledR l t = none) : l = [] := by
  cases l with
  | nil => rfl
  | cons e l =>
    exfalso
    have ge := g e List.mem_cons_self
    have e0 := z 0 (by grind)
    rw [led_cons_lt ge.s] at e0
    have eb : e.b = none := by
      unfold byR at e0
      revert e0
      cases e.b with
      | none => intro _; rfl
      | some x => intro q; exact nomatch q
    cases l with
    | nil => exact h eb
    | cons f l =>
      have gf := g f (List.mem_cons_of_mem _ List.mem_cons_self)
      have f0 := z e.s (by have := ge.s; grind)
      rw [led_cons_ge (by grind), led_cons_lt (by have := gf.s; grind)] at f0
      have h1 := h.1
      unfold onB at h1
      unfold byR at f0
      rw [eb] at h1
      revert f0 h1
      cases f.b with
      | none => intro _ q; exact nomatch q
      | some x => intro q; exact nomatch q
/-- the head of the shorter span: it can't be -/
theorem tidy_short {e f : Er} {l m : List Er} (hl : TidyR (e :: l)) (gl : ∀ x ∈ e :: l, GoodE x) (gm : ∀ x ∈ f :: m, GoodE x) (z : ∀ t, 0 ≤ t → ledR (e :: l) t = ledR (f :: m) t) (c : e.s < f.s) : False := by
  have ge := gl e List.mem_cons_self
  have gf := gm f List.mem_cons_self
  have se := ge.s
  obtain ⟨q1, q2⟩ := by_eq ge gf se fun t h0 h1 => by
    have := z t h0
    rw [led_cons_lt h1, led_cons_lt (by grind)] at this
    exact this
  cases l with
  | nil =>
    have := z e.s (by grind)
    rw [led_cons_ge (by grind), led_cons_lt c] at this
    have eb : f.b = none := by
      unfold byR at this
      revert this
      cases f.b with
      | none => intro _; rfl
      | some x => intro q; exact nomatch q
    exact hl (q1.trans eb)
  | cons g l =>
    have gg := gl g (List.mem_cons_of_mem _ List.mem_cons_self)
    have sg := gg.s
    -- the second edit goes on where the first one ends
    let f' : Er := ⟨f.s - e.s, match f.b with | none => none | some x => some (x + f.r * e.s), f.r⟩
    have gf' : GoodE f' := by
      refine ⟨by show 0 < f.s - e.s; grind, gf.r, ?_, ?_⟩
      · intro x hx
        have : (match f.b with | none => none | some x => some (x + f.r * e.s)) = some x := hx
        revert this
        cases fb : f.b with
        | none => intro q; exact nomatch q
        | some y =>
          intro q
          cases q
          have h1 := gf.b y fb
          have h2 := Rat.mul_nonneg gf.r (show 0 ≤ e.s by grind)
          grind
      · intro hx
        have : (match f.b with | none => none | some x => some (x + f.r * e.s)) = none := hx
        refine gf.n ?_
        revert this
        cases fb : f.b with
        | none => intro q; rfl
        | some y => intro q; exact nomatch q
    have hw : 0 < min g.s (f.s - e.s) := by grind
    obtain ⟨r1, r2⟩ := by_eq gg gf' hw fun t h0 h1 => by
      have := z (e.s + t) (by grind)
      rw [led_cons_ge (by grind), led_cons_lt (by grind), led_cons_lt (by grind)] at this
      rw [show e.s + t - e.s = t by grind] at this
      rw [this]
      unfold byR
      show _ = match (match f.b with | none => none | some x => some (x + f.r * e.s)) with | none => none | some x => some (x + f.r * t)
      cases f.b with
      | none => rfl
      | some x => show some _ = some _; congr 1; grind
    have h1 := hl.1
    have r1' : g.b = match f.b with | none => none | some x => some (x + f.r * e.s) := r1
    have r2' : g.r = f.r := r2
    unfold onB at h1
    rw [r1', q1] at h1
    revert h1
    cases f.b with
    | none => intro q; exact nomatch q
    | some x => simp [q2, r2']
/-- two tidy lists that lead alike are one -/
theorem tidy_uniq : ∀ {l m : List Er}, TidyR l → TidyR m → (∀ e ∈ l, GoodE e) → (∀ e ∈ m, GoodE e) → (∀ t, 0 ≤ t → ledR l t = ledR m t) → l = m
  | [], m, _, hm, _, gm, z => (tidy_nil hm gm fun t h => (z t h).symm).symm
  | e :: l, [], hl, _, gl, _, z => tidy_nil hl gl fun t h => z t h
  | e :: l, f :: m, hl, hm, gl, gm, z => by
    have c1 : ¬ e.s < f.s := fun c => tidy_short hl gl gm z c
    have c2 : ¬ f.s < e.s := fun c => tidy_short hm gm gl (fun t h => (z t h).symm) c
    have es : e.s = f.s := by grind
    have ge := gl e List.mem_cons_self
    have gf := gm f List.mem_cons_self
    have se := ge.s
    obtain ⟨q1, q2⟩ := by_eq ge gf se fun t h0 h1 => by
      have := z t h0
      rw [led_cons_lt h1, led_cons_lt (by grind)] at this
      exact this
    have ef : e = f := by
      cases e; cases f
      simp only at *
      rw [es, q1, q2]
    have := tidy_uniq (tidy_tail hl) (tidy_tail hm) (fun x m => gl x (List.mem_cons_of_mem _ m)) (fun x m => gm x (List.mem_cons_of_mem _ m)) fun t h => by
      have := z (t + e.s) (by grind)
      rw [led_cons_ge (by grind), led_cons_ge (by grind)] at this
      rw [show t + e.s - e.s = t by grind, show t + e.s - f.s = t by grind] at this
      exact this
    rw [ef, this]
theorem tidy_of_tidy {l : List Er} (h : TidyR l) (g : ∀ e ∈ l, GoodE e) : tidyR l = l :=
  tidy_uniq (tidy_tidy l) h (tidy_good g) g fun t _ => led_tidy (fun e m => (g e m).s) t
end A

set_option Elab.async false
set_option linter.all false
set_option maxRecDepth 100000
set_option maxHeartbeats 2000000
namespace A
theorem sumR_nn : ∀ {l : List Er}, (∀ e ∈ l, 0 < e.s) → 0 ≤ sumR l
  | [], _ => Rat.le_refl
  | e :: l, h => by
    have := h e List.mem_cons_self
    have := sumR_nn fun y m => h y (List.mem_cons_of_mem e m)
    show 0 ≤ e.s + sumR l
    grind
theorem sumR_app : ∀ (l m : List Er), sumR (l ++ m) = sumR l + sumR m
  | [], m => by show sumR m = 0 + sumR m; grind
  | e :: l, m => by show e.s + sumR (l ++ m) = e.s + sumR l + sumR m; rw [sumR_app l m]; grind
theorem led_beyond : ∀ {l : List Er} {t : Rat}, sumR l ≤ t → (∀ e ∈ l, 0 < e.s) → ledR l t = none
  | [], _, _, _ => rfl
  | e :: l, t, h, g => by
    have nn := sumR_nn fun y m => g y (List.mem_cons_of_mem e m)
    have h' : e.s + sumR l ≤ t := h
    rw [led_cons_ge (by grind)]
    exact led_beyond (by grind) fun y m => g y (List.mem_cons_of_mem _ m)
theorem led_app : ∀ (l m : List Er) (t : Rat), 0 ≤ t → (∀ e ∈ l, 0 < e.s) → ledR (l ++ m) t = if t < sumR l then ledR l t else ledR m (t - sumR l)
  | [], m, t, h, _ => by
    show ledR m t = if t < 0 then none else ledR m (t - 0)
    rw [if_neg (show ¬ t < 0 by grind)]
    rw [show t - 0 = t by grind]
  | e :: l, m, t, h, g => by
    have g' := fun y m => g y (List.mem_cons_of_mem e m)
    have nn := sumR_nn g'
    show (if t < e.s then byR e t else ledR (l ++ m) (t - e.s)) = (if t < e.s + sumR l then (if t < e.s then byR e t else ledR l (t - e.s)) else ledR m (t - (e.s + sumR l)))
    by_cases c : t < e.s
    · rw [if_pos c, if_pos (show t < e.s + sumR l by grind), if_pos c]
    · rw [if_neg c, led_app l m (t - e.s) (by grind) g']
      by_cases c2 : t - e.s < sumR l
      · rw [if_pos c2, if_pos (show t < e.s + sumR l by grind), if_neg c]
      · rw [if_neg c2, if_neg (show ¬ t < e.s + sumR l by grind), show t - e.s - sumR l = t - (e.s + sumR l) by grind]
/-- what the moments from lo on, below hi, are led to; b: where the list begins -/
def piecesR : List Er → Rat → Rat → Rat → List Er
  | [], b, lo, hi => if max b lo < hi then [⟨hi - max b lo, none, 0⟩] else []
  | e :: l, b, lo, hi => (if max b lo < min (b + e.s) hi then [⟨min (b + e.s) hi - max b lo, byR e (max b lo - b), e.r⟩] else []) ++ piecesR l (b + e.s) lo hi
theorem pieces_none : ∀ {l : List Er} {b lo hi : Rat}, hi ≤ max b lo → (∀ e ∈ l, 0 < e.s) → piecesR l b lo hi = []
  | [], b, lo, hi, h, _ => if_neg (by grind)
  | e :: l, b, lo, hi, h, g => by
    have := g e List.mem_cons_self
    show (if max b lo < min (b + e.s) hi then _ else []) ++ piecesR l (b + e.s) lo hi = []
    rw [if_neg (by grind), pieces_none (by grind) fun y m => g y (List.mem_cons_of_mem _ m)]
    rfl
theorem pieces_sum : ∀ {l : List Er} {b lo hi : Rat}, max b lo < hi → (∀ e ∈ l, 0 < e.s) → sumR (piecesR l b lo hi) = hi - max b lo
  | [], b, lo, hi, h, _ => by
    show sumR (if max b lo < hi then [⟨hi - max b lo, none, 0⟩] else []) = _
    rw [if_pos h]
    show hi - max b lo + 0 = _
    grind
  | e :: l, b, lo, hi, h, g => by
    have ge := g e List.mem_cons_self
    have g' := fun y m => g y (List.mem_cons_of_mem e m)
    show sumR ((if max b lo < min (b + e.s) hi then [⟨min (b + e.s) hi - max b lo, byR e (max b lo - b), e.r⟩] else []) ++ piecesR l (b + e.s) lo hi) = _
    rw [sumR_app]
    by_cases c : max b lo < min (b + e.s) hi
    · rw [if_pos c]
      show (min (b + e.s) hi - max b lo + 0) + _ = _
      by_cases c2 : max (b + e.s) lo < hi
      · rw [pieces_sum c2 g']; grind
      · rw [pieces_none (by grind) g']; show _ + (0 : Rat) = _; grind
    · rw [if_neg c, pieces_sum (by grind) g']
      show (0 : Rat) + _ = _
      grind
theorem pieces_led : ∀ {l : List Er} {b lo hi t : Rat}, max b lo < hi → (∀ e ∈ l, 0 < e.s) → 0 ≤ t → ledR (piecesR l b lo hi) t = if t < hi - max b lo then ledR l (max b lo + t - b) else none
  | [], b, lo, hi, t, h, _, _ => by
    show ledR (if max b lo < hi then [⟨hi - max b lo, none, 0⟩] else []) t = _
    rw [if_pos h]
    show (if t < hi - max b lo then none else none) = (if t < hi - max b lo then none else none)
    rfl
  | e :: l, b, lo, hi, t, h, g, h0 => by
    have ge := g e List.mem_cons_self
    have g' := fun y m => g y (List.mem_cons_of_mem e m)
    show ledR ((if max b lo < min (b + e.s) hi then [⟨min (b + e.s) hi - max b lo, byR e (max b lo - b), e.r⟩] else []) ++ piecesR l (b + e.s) lo hi) t = if t < hi - max b lo then (if max b lo + t - b < e.s then byR e (max b lo + t - b) else ledR l (max b lo + t - b - e.s)) else none
    by_cases c : max b lo < min (b + e.s) hi
    · rw [if_pos c]
      show (if t < min (b + e.s) hi - max b lo then byR ⟨min (b + e.s) hi - max b lo, byR e (max b lo - b), e.r⟩ t else ledR (piecesR l (b + e.s) lo hi) (t - (min (b + e.s) hi - max b lo))) = _
      by_cases c1 : t < min (b + e.s) hi - max b lo
      · rw [if_pos c1, if_pos (by grind), if_pos (by grind)]
        unfold byR
        cases e.b with
        | none => rfl
        | some x => show some _ = some _; congr 1; grind
      · rw [if_neg c1]
        by_cases c2 : max (b + e.s) lo < hi
        · rw [pieces_led c2 g' (by grind)]
          by_cases c3 : t < hi - max b lo
          · rw [if_pos (by grind), if_pos c3, if_neg (by grind)]
            congr 1
            grind
          · rw [if_neg (by grind), if_neg c3]
        · rw [pieces_none (by grind) g', if_neg (by grind)]
          rfl
    · rw [if_neg c]
      show ledR (piecesR l (b + e.s) lo hi) t = _
      rw [pieces_led (by grind) g' h0]
      by_cases c3 : t < hi - max b lo
      · rw [if_pos (by grind), if_pos c3, if_neg (by grind)]
        congr 1
        grind
      · rw [if_neg (by grind), if_neg c3]
theorem pieces_good : ∀ {l : List Er} {b lo hi : Rat}, (∀ e ∈ l, GoodE e) → ∀ e ∈ piecesR l b lo hi, GoodE e
  | [], b, lo, hi, _, e, m => by
    have m' : e ∈ (if max b lo < hi then [⟨hi - max b lo, none, 0⟩] else ([] : List Er)) := m
    by_cases c : max b lo < hi
    · rw [if_pos c] at m'
      rw [List.mem_singleton.mp m']
      exact ⟨(by show 0 < hi - max b lo; grind), Rat.le_refl, (fun _ q => nomatch q), fun _ => rfl⟩
    · rw [if_neg c] at m'; exact nomatch m'
  | a :: l, b, lo, hi, g, e, m => by
    have ga := g a List.mem_cons_self
    have m' : e ∈ (if max b lo < min (b + a.s) hi then [⟨min (b + a.s) hi - max b lo, byR a (max b lo - b), a.r⟩] else []) ++ piecesR l (b + a.s) lo hi := m
    rcases List.mem_append.mp m' with m | m
    · by_cases c : max b lo < min (b + a.s) hi
      · rw [if_pos c] at m
        rw [List.mem_singleton.mp m]
        refine ⟨by show 0 < min (b + a.s) hi - max b lo; grind, ga.r, ?_, ?_⟩
        · intro x hx
          have hx' : byR a (max b lo - b) = some x := hx
          unfold byR at hx'
          revert hx'
          cases ab : a.b with
          | none => intro q; exact nomatch q
          | some y =>
            intro q
            cases q
            have h1 := ga.b y ab
            have h2 := Rat.mul_nonneg ga.r (show 0 ≤ max b lo - b by grind)
            grind
        · intro hx
          have hx' : byR a (max b lo - b) = none := hx
          unfold byR at hx'
          refine ga.n ?_
          revert hx'
          cases ab : a.b with
          | none => intro q; rfl
          | some y => intro q; exact nomatch q
      · rw [if_neg c] at m; exact nomatch m
    · exact pieces_good (fun y m => g y (List.mem_cons_of_mem _ m)) e m
/-- one edit led on by others -/
def paceR (r : Rat) (e : Er) : Er := ⟨e.s / r, e.b, r * e.r⟩
def throughR (inner : List Er) (e : Er) : List Er := match e.b with
  | none => [e]
  | some x => if e.r = 0 then [⟨e.s, ledR inner x, 0⟩] else (piecesR inner 0 x (x + e.r * e.s)).map (paceR e.r)
def overR (outer inner : List Er) : List Er := tidyR (outer.flatMap (throughR inner))
theorem pace_led {r : Rat} (hr : 0 < r) : ∀ (l : List Er) (t : Rat), ledR (l.map (paceR r)) t = ledR l (r * t)
  | [], _ => rfl
  | e :: l, t => by
    show (if t < e.s / r then byR (paceR r e) t else ledR (l.map (paceR r)) (t - e.s / r)) = (if r * t < e.s then byR e (r * t) else ledR l (r * t - e.s))
    have li : t < e.s / r ↔ r * t < e.s := Rat.lt_div_iff' hr
    by_cases c : r * t < e.s
    · rw [if_pos c, if_pos (li.mpr c)]
      unfold byR
      show (match e.b with | none => none | some x => some (x + r * e.r * t)) = _
      cases e.b with
      | none => rfl
      | some x => show some _ = some _; congr 1; grind
    · rw [if_neg c, if_neg (fun q => c (li.mp q)), pace_led hr l]
      congr 1
      have : r * (e.s / r) = e.s := by rw [Rat.mul_comm]; exact Rat.div_mul_cancel (by grind)
      grind
theorem pace_sum {r : Rat} (hr : 0 < r) : ∀ (l : List Er), r * sumR (l.map (paceR r)) = sumR l
  | [] => by show r * 0 = 0; grind
  | e :: l => by
    show r * (e.s / r + sumR (l.map (paceR r))) = e.s + sumR l
    have : r * (e.s / r) = e.s := by rw [Rat.mul_comm]; exact Rat.div_mul_cancel (by grind)
    have := pace_sum hr l
    grind
theorem byR_some {e : Er} {x : Rat} (h : e.b = some x) (t : Rat) : byR e t = some (x + e.r * t) := by unfold byR; rw [h]
theorem byR_none {e : Er} (h : e.b = none) (t : Rat) : byR e t = none := by unfold byR; rw [h]
theorem through_none {inner : List Er} {e : Er} (h : e.b = none) : throughR inner e = [e] := by unfold throughR; rw [h]
theorem through_dwell {inner : List Er} {e : Er} {x : Rat} (h : e.b = some x) (hr : e.r = 0) : throughR inner e = [⟨e.s, ledR inner x, 0⟩] := by unfold throughR; rw [h]; exact if_pos hr
theorem through_run {inner : List Er} {e : Er} {x : Rat} (h : e.b = some x) (hr : e.r ≠ 0) : throughR inner e = (piecesR inner 0 x (x + e.r * e.s)).map (paceR e.r) := by unfold throughR; rw [h]; exact if_neg hr
theorem through_sum {inner : List Er} {e : Er} (gi : ∀ y ∈ inner, 0 < y.s) (ge : GoodE e) : sumR (throughR inner e) = e.s := by
  cases hb : e.b with
  | none => rw [through_none hb]; show e.s + 0 = e.s; grind
  | some x =>
    by_cases hr : e.r = 0
    · rw [through_dwell hb hr]; show e.s + 0 = e.s; grind
    · rw [through_run hb hr]
      have h0 := ge.b x hb
      have hs := ge.s
      have hr' : 0 < e.r := by have := ge.r; grind
      have hp := Rat.mul_pos hr' hs
      have h1 := pace_sum hr' (piecesR inner 0 x (x + e.r * e.s))
      rw [pieces_sum (by grind) gi, show max 0 x = x by grind, show x + e.r * e.s - x = e.r * e.s by grind] at h1
      have : e.r * (sumR ((piecesR inner 0 x (x + e.r * e.s)).map (paceR e.r)) - e.s) = 0 := by grind
      rcases Rat.mul_eq_zero.mp this with z | z
      · exact absurd z hr
      · grind
theorem through_led {inner : List Er} {e : Er} {t : Rat} (gi : ∀ y ∈ inner, 0 < y.s) (ge : GoodE e) (h0 : 0 ≤ t) (h1 : t < e.s) : ledR (throughR inner e) t = (byR e t).bind (ledR inner) := by
  cases hb : e.b with
  | none => rw [through_none hb, byR_none hb, led_cons_lt h1, byR_none hb]; rfl
  | some x =>
    rw [byR_some hb]
    by_cases hr : e.r = 0
    · rw [through_dwell hb hr, led_cons_lt (e := ⟨e.s, ledR inner x, 0⟩) h1, hr]
      show byR ⟨e.s, ledR inner x, 0⟩ t = ledR inner (x + 0 * t)
      rw [show x + 0 * t = x by grind]
      unfold byR
      show (match ledR inner x with | none => none | some y => some (y + 0 * t)) = _
      cases ledR inner x with
      | none => rfl
      | some y => show some _ = some _; congr 1; grind
    · rw [through_run hb hr]
      have hx := ge.b x hb
      have hr' : 0 < e.r := by have := ge.r; grind
      have hp := Rat.mul_pos hr' ge.s
      have hp2 := Rat.mul_nonneg ge.r h0
      have hlt := Rat.mul_lt_mul_of_pos_left h1 hr'
      rw [pace_led hr', pieces_led (by grind) gi hp2, show max 0 x = x by grind, if_pos (by grind)]
      show ledR inner (x + e.r * t - 0) = ledR inner (x + e.r * t)
      congr 1
      grind
theorem pace_good {r : Rat} (hr : 0 < r) {e : Er} (h : GoodE e) : GoodE (paceR r e) := by
  refine ⟨?_, Rat.mul_nonneg (by grind) h.r, h.b, fun q => ?_⟩
  · show 0 < e.s / r
    rw [Rat.div_def]
    exact Rat.mul_pos h.s (Rat.inv_pos.mpr hr)
  · show r * e.r = 0
    rw [h.n q]
    grind
theorem led_nn {l : List Er} (g : ∀ e ∈ l, GoodE e) : ∀ {t x : Rat}, 0 ≤ t → ledR l t = some x → 0 ≤ x := by
  induction l with
  | nil => intro t x _ q; exact nomatch q
  | cons e l ih =>
    intro t x h0 q
    have ge := g e List.mem_cons_self
    by_cases c : t < e.s
    · rw [led_cons_lt c] at q
      unfold byR at q
      revert q
      cases eb : e.b with
      | none => intro q; exact nomatch q
      | some y =>
        intro q
        cases q
        have := ge.b y eb
        have := Rat.mul_nonneg ge.r h0
        grind
    · rw [led_cons_ge (by grind)] at q
      exact ih (fun y m => g y (List.mem_cons_of_mem _ m)) (by grind) q
theorem through_good {inner : List Er} {e : Er} (gi : ∀ y ∈ inner, GoodE y) (ge : GoodE e) : ∀ y ∈ throughR inner e, GoodE y := by
  intro y m
  cases hb : e.b with
  | none => rw [through_none hb] at m; rw [List.mem_singleton.mp m]; exact ge
  | some x =>
    by_cases hr : e.r = 0
    · rw [through_dwell hb hr] at m
      rw [List.mem_singleton.mp m]
      exact ⟨ge.s, Rat.le_refl, fun z q => led_nn gi (ge.b x hb) q, fun _ => rfl⟩
    · rw [through_run hb hr] at m
      obtain ⟨z, mz, rfl⟩ := List.mem_map.mp m
      exact pace_good (by have := ge.r; grind) (pieces_good gi z mz)
theorem flat_good {inner outer : List Er} (gi : ∀ y ∈ inner, GoodE y) (go : ∀ y ∈ outer, GoodE y) : ∀ y ∈ outer.flatMap (throughR inner), GoodE y := by
  intro y m
  obtain ⟨e, me, m⟩ := List.mem_flatMap.mp m
  exact through_good gi (go e me) y m
theorem flat_led {inner : List Er} (gi : ∀ y ∈ inner, GoodE y) : ∀ {outer : List Er} {t : Rat}, (∀ y ∈ outer, GoodE y) → 0 ≤ t → ledR (outer.flatMap (throughR inner)) t = (ledR outer t).bind (ledR inner)
  | [], t, _, _ => rfl
  | e :: l, t, go, h0 => by
    have gi' := fun y m => (gi y m).s
    have ge := go e List.mem_cons_self
    have gl := fun y m => go y (List.mem_cons_of_mem e m)
    rw [List.flatMap_cons, led_app _ _ _ h0 (fun y m => (through_good gi ge y m).s), through_sum gi' ge]
    by_cases c : t < e.s
    · rw [if_pos c, led_cons_lt c, through_led gi' ge h0 c]
    · rw [if_neg c, led_cons_ge (by grind), flat_led gi gl (by grind)]
theorem over_led {outer inner : List Er} {t : Rat} (gi : ∀ y ∈ inner, GoodE y) (go : ∀ y ∈ outer, GoodE y) (h0 : 0 ≤ t) : ledR (overR outer inner) t = (ledR outer t).bind (ledR inner) := by
  unfold overR
  rw [led_tidy fun e m => (flat_good gi go e m).s, flat_led gi go h0]
theorem over_good {outer inner : List Er} (gi : ∀ y ∈ inner, GoodE y) (go : ∀ y ∈ outer, GoodE y) : ∀ y ∈ overR outer inner, GoodE y := tidy_good (flat_good gi go)
def partR (l : List Er) (lo hi : Rat) : List Er := tidyR (piecesR l 0 lo hi)
theorem part_led {l : List Er} {lo hi t : Rat} (g : ∀ y ∈ l, GoodE y) (h : lo < hi) (hl : 0 ≤ lo) (h0 : 0 ≤ t) : ledR (partR l lo hi) t = if t < hi - lo then ledR l (lo + t) else none := by
  unfold partR
  rw [led_tidy fun e m => (pieces_good g e m).s, pieces_led (by grind) (fun e m => (g e m).s) h0, show max 0 lo = lo by grind, show lo + t - 0 = lo + t by grind]
theorem part_good {l : List Er} {lo hi : Rat} (g : ∀ y ∈ l, GoodE y) : ∀ y ∈ partR l lo hi, GoodE y := tidy_good (pieces_good g)
theorem after_led {l m : List Er} {t : Rat} (g : ∀ y ∈ l, GoodE y) (g' : ∀ y ∈ m, GoodE y) (h0 : 0 ≤ t) : ledR (tidyR (l ++ m)) t = if t < sumR l then ledR l t else ledR m (t - sumR l) := by
  rw [led_tidy (fun e q => (List.mem_append.mp q).elim (fun q => (g e q).s) fun q => (g' e q).s), led_app _ _ _ h0 fun e q => (g e q).s]
end A

set_option Elab.async false
set_option linter.all false
set_option maxRecDepth 100000
set_option maxHeartbeats 2000000
namespace A
open PySem PySem.Spec PyProof.Rows L2 Y
open Y.Enc (enc)
/-! # fractions as they are handed about: the pair of a Rat -/
abbrev Fr := Tp2 Int Int
abbrev Ed := Tp3 Fr (Option Fr) Fr
def F (q : Rat) : Fr := ⟨q.num, (q.den : Int)⟩
def G (e : Er) : Ed := ⟨F e.s, e.b.map F, F e.r⟩
theorem den_pos (q : Rat) : (0 : Int) < (q.den : Int) := by have := q.den_nz; omega
theorem F_low (q : Rat) : Low (F q) := ⟨den_pos q, q.reduced⟩
theorem F_inj {p q : Rat} (h : F p = F q) : p = q := by
  have h1 : p.num = q.num := congrArg Tp2.a h
  have h2 : (p.den : Int) = (q.den : Int) := congrArg Tp2.b h
  exact Rat.ext h1 (by omega)
theorem lowT_F {a b : Int} (hb : b ≠ 0) : lowT a b = F (Rat.divInt a b) := by
  refine low_eq (F_low _) hb ?_
  have e := Rat.num_divInt_den (Rat.divInt a b)
  have hd : ((Rat.divInt a b).den : Int) ≠ 0 := by have := den_pos (Rat.divInt a b); omega
  exact (Rat.divInt_eq_divInt_iff hd hb).mp e
theorem lowT_add (p q : Rat) : lowT (p.num * (q.den : Int) + q.num * (p.den : Int)) ((p.den : Int) * (q.den : Int)) = F (p + q) := by
  have hp := den_pos p
  have hq := den_pos q
  rw [lowT_F (by have := Int.mul_pos hp hq; omega), ← Rat.divInt_add_divInt _ _ (by omega) (by omega), Rat.num_divInt_den, Rat.num_divInt_den]
theorem lowT_sub (p q : Rat) : lowT (p.num * (q.den : Int) - q.num * (p.den : Int)) ((p.den : Int) * (q.den : Int)) = F (p - q) := by
  have hp := den_pos p
  have hq := den_pos q
  rw [lowT_F (by have := Int.mul_pos hp hq; omega), ← Rat.divInt_sub_divInt _ _ (by omega) (by omega), Rat.num_divInt_den, Rat.num_divInt_den]
theorem lowT_mul (p q : Rat) : lowT (p.num * q.num) ((p.den : Int) * (q.den : Int)) = F (p * q) := by
  have hp := den_pos p
  have hq := den_pos q
  rw [lowT_F (by have := Int.mul_pos hp hq; omega), ← Rat.divInt_mul_divInt, Rat.num_divInt_den, Rat.num_divInt_den]
theorem lowT_div (p q : Rat) (h : q ≠ 0) : lowT (p.num * (q.den : Int)) ((p.den : Int) * q.num) = F (p / q) := by
  have hp := den_pos p
  have hn : q.num ≠ 0 := fun z => h (Rat.num_eq_zero.mp z)
  rw [lowT_F (fun z => (Int.mul_eq_zero.mp z).elim (by omega) hn), ← Rat.divInt_mul_divInt, Rat.num_divInt_den, Rat.div_def, Rat.inv_def]
/-! ## sizes -/
def Sz (q : Rat) : Prop := q.num.natAbs < 2 ^ 4400 ∧ q.den < 2 ^ 4400
def Dv (D N : Nat) (q : Rat) : Prop := ∃ k : Int, q * (D : Rat) = (k : Rat) ∧ k.natAbs ≤ N * D
section
variable {D E N M : Nat} {p q : Rat}
theorem Dv.add (h : Dv D N p) (h' : Dv D M q) : Dv D (N + M) (p + q) := by
  obtain ⟨k, e, b⟩ := h
  obtain ⟨k', e', b'⟩ := h'
  refine ⟨k + k', ?_, ?_⟩
  · rw [Rat.intCast_add]; grind
  · rw [Nat.add_mul]; omega
theorem Dv.sub (h : Dv D N p) (h' : Dv D M q) : Dv D (N + M) (p - q) := by
  obtain ⟨k, e, b⟩ := h
  obtain ⟨k', e', b'⟩ := h'
  refine ⟨k - k', ?_, ?_⟩
  · rw [Rat.intCast_sub]; grind
  · rw [Nat.add_mul]; omega
theorem Dv.mul (h : Dv D N p) (h' : Dv E M q) : Dv (D * E) (N * M) (p * q) := by
  obtain ⟨k, e, b⟩ := h
  obtain ⟨k', e', b'⟩ := h'
  refine ⟨k * k', ?_, ?_⟩
  · rw [Rat.intCast_mul, Rat.natCast_mul]; grind
  · rw [Int.natAbs_mul, show N * M * (D * E) = (N * D) * (M * E) by grind]
    exact Nat.mul_le_mul b b'
theorem Dv.up (h : Dv D N p) (hn : N ≤ M) : Dv D M p := by
  obtain ⟨k, e, b⟩ := h
  exact ⟨k, e, Nat.le_trans b (Nat.mul_le_mul_right _ hn)⟩
theorem Dv.den (h : Dv D N p) (hd : D ∣ E) : Dv E N p := by
  obtain ⟨k, e, b⟩ := h
  obtain ⟨c, rfl⟩ := hd
  refine ⟨k * (c : Int), ?_, ?_⟩
  · rw [Rat.intCast_mul, Rat.natCast_mul, Rat.intCast_natCast]; grind
  · rw [Int.natAbs_mul, Int.natAbs_natCast, ← Nat.mul_assoc]
    exact Nat.mul_le_mul_right _ b
theorem Dv.to (h : Dv D N p) (hd : D ∣ E) (hn : N ≤ M) : Dv E M p := (h.den hd).up hn
theorem Dv.mid (h : Dv D N p) (h' : Dv D M q) (h0 : 0 ≤ q) (h1 : q ≤ p) : Dv D N q := by
  obtain ⟨k, e, b⟩ := h
  obtain ⟨k', e', b'⟩ := h'
  have hd : (0 : Rat) ≤ (D : Rat) := Rat.natCast_nonneg
  have a1 : (0 : Rat) ≤ (k' : Rat) := by rw [← e']; exact Rat.mul_nonneg h0 hd
  have a2 : (k' : Rat) ≤ (k : Rat) := by rw [← e', ← e]; exact Rat.mul_le_mul_of_nonneg_right h1 hd
  have a1' := Rat.intCast_nonneg.mp a1
  have a2' := Rat.intCast_le_intCast.mp a2
  exact ⟨k', e', by omega⟩
theorem Dv.of {a b : Int} (hb : 0 < b) (hd : b.toNat ∣ D) (h : a.natAbs ≤ N * b.toNat) : Dv D N (Rat.divInt a b) := by
  obtain ⟨c, rfl⟩ := hd
  have eb : ((b.toNat : Nat) : Int) = b := by omega
  refine ⟨a * (c : Int), ?_, ?_⟩
  · rw [Rat.intCast_mul, Rat.natCast_mul, Rat.intCast_natCast, ← Rat.intCast_natCast b.toNat, eb, Rat.divInt_eq_div]
    have hb' : (b : Rat) ≠ 0 := fun z => by have := Rat.intCast_eq_zero_iff.mp z; omega
    have := Rat.div_mul_cancel (a := (a : Rat)) hb'
    grind
  · rw [Int.natAbs_mul, Int.natAbs_natCast, ← Nat.mul_assoc]
    exact Nat.mul_le_mul_right _ h
theorem Dv.int {a : Int} (h : a.natAbs ≤ N) : Dv D N (a : Rat) := ⟨a * (D : Int), by rw [Rat.intCast_mul, Rat.intCast_natCast], by rw [Int.natAbs_mul, Int.natAbs_natCast]; exact Nat.mul_le_mul_right _ h⟩
theorem Dv.bound (h : Dv D N q) (h0 : 0 < D) : q.num.natAbs ≤ N * D ∧ q.den ≤ D := by
  obtain ⟨k, e, b⟩ := h
  have hD : (D : Rat) ≠ 0 := fun z => by have := Rat.natCast_eq_zero_iff.mp z; omega
  have eq : q = Rat.divInt k (D : Int) := by
    rw [Rat.divInt_eq_div, Rat.intCast_natCast, ← e]
    exact (Rat.mul_div_cancel hD).symm
  have hl := lowT_of (a := k) (b := (D : Int)) (by omega)
  rw [lowT_F (by omega), ← eq] at hl
  have h1 := hl.2.2.2.1
  have h2 := hl.2.2.2.2
  have h1' : q.num.natAbs ≤ k.natAbs := h1
  have h2' : ((q.den : Int)).natAbs ≤ ((D : Int)).natAbs := h2
  rw [Int.natAbs_natCast, Int.natAbs_natCast] at h2'
  exact ⟨Nat.le_trans h1' b, h2'⟩
theorem Dv.sz (h : Dv D N q) (h0 : 0 < D) (h1 : D < 2 ^ 4400) (h2 : N * D < 2 ^ 4400) : Sz q :=
  ⟨Nat.lt_of_le_of_lt (h.bound h0).1 h2, Nat.lt_of_le_of_lt (h.bound h0).2 h1⟩
end
/-- what fits: every product of two of its numbers, too -/
structure Big (D N : Nat) : Prop where
  p : 0 < D
  d : D < 2 ^ 1700
  n : N < 2 ^ 400
theorem mul_lt_pow {a b m n : Nat} (h : a < 2 ^ m) (h' : b < 2 ^ n) : a * b < 2 ^ (m + n) := by
  rw [Nat.pow_add]
  exact Nat.mul_lt_mul'' h h'
theorem pow_up {a m n : Nat} (h : a < 2 ^ m) (hm : m ≤ n) : a < 2 ^ n := Nat.lt_of_lt_of_le h (Nat.pow_le_pow_right (by decide) hm)
section
variable {D N : Nat} {p q : Rat}
theorem Big.sz (b : Big D N) (h : Dv D N q) : Sz q := h.sz b.p (pow_up b.d (by decide)) (pow_up (mul_lt_pow b.n b.d) (by decide))
theorem Big.sz2 (b : Big D N) (h : Dv D N p) (h' : Dv D N q) : Sz (p * q) :=
  (h.mul h').sz (Nat.mul_pos b.p b.p) (pow_up (mul_lt_pow b.d b.d) (by decide)) (pow_up (mul_lt_pow (mul_lt_pow b.n b.n) (mul_lt_pow b.d b.d)) (by decide))
end
theorem m2 {x y : Int} {m n : Nat} (h : x.natAbs < 2 ^ m) (h' : y.natAbs < 2 ^ n) : (x * y).natAbs < 2 ^ (m + n) := L2.wide_lt h h'
theorem up {x : Int} {m n : Nat} (h : x.natAbs < 2 ^ m) (hm : m ≤ n) : x.natAbs < 2 ^ n := Nat.lt_of_lt_of_le h (Nat.pow_le_pow_right (by decide) hm)
theorem cw {x y : Int} {m n : Nat} (h : x.natAbs < 2 ^ m) (h' : y.natAbs < 2 ^ n) (h0 : 0 < m := by decide) (h1 : 0 < n := by decide) (h2 : m + n ≤ 1000000 := by decide) : CMulW x y := mulW h h' h0 h1 h2
theorem lowest_eq {a b : Int} (h : 0 < b) (hs : b.natAbs < 2 ^ 8800) : l_lowest a b = .ok (lowT a b) := by
  have e0 : l_lowest a b = (l_shared a b).bind fun x1 => guardR (CDivW a x1) <| guardR (CDivW b x1) <| .ok (⟨(a / x1), (b / x1)⟩ : Fr) := rfl
  have e1 : l_shared a b = .ok (Int.gcd a b : Int) := div_ok a b
  rw [e0, e1]
  have hg : 0 < Int.gcd a b := Int.gcd_pos_of_ne_zero_right a (by omega)
  have es : shr a b = ((Int.gcd a b : Nat) : Int) := by unfold shr; rw [if_neg (by omega)]
  have hs2 := (shr_small (a := a) (b := b) (by omega)).2
  rw [es] at hs2
  have c : CDivW a ((Int.gcd a b : Nat) : Int) := divW (by omega) (b := 8800) (Nat.lt_of_le_of_lt hs2 hs)
  show guardR (CDivW a ((Int.gcd a b : Nat) : Int)) (guardR (CDivW b ((Int.gcd a b : Nat) : Int)) (.ok (⟨a / ((Int.gcd a b : Nat) : Int), b / ((Int.gcd a b : Nat) : Int)⟩ : Fr))) = _
  unfold guardR
  rw [if_pos c, if_pos (show CDivW b ((Int.gcd a b : Nat) : Int) from c)]
  unfold lowT
  rw [es, Int.fdiv_eq_ediv_of_nonneg a (by omega), Int.fdiv_eq_ediv_of_nonneg b (by omega)]
theorem frac_eq {a b : Int} (h : 0 < b) (hs : b.natAbs < 2 ^ 8800) : m_fraction (enc (a : Int)) (enc (b : Int)) = .ok (lowT a b) := fraction_eq (by omega) hs
/-- the law's fraction of a by b -/
theorem lowest_F {a b : Int} (h : 0 < b) (hs : b.natAbs < 2 ^ 8800) : l_lowest a b = .ok (F (Rat.divInt a b)) := by rw [lowest_eq h hs, lowT_F (by omega)]
section
variable {p q : Rat}
theorem Sz.a (h : Sz p) : (F p).a.natAbs < 2 ^ 4400 := h.1
theorem Sz.b (h : Sz p) : (F p).b.natAbs < 2 ^ 4400 := by show ((p.den : Int)).natAbs < 2 ^ 4400; rw [Int.natAbs_natCast]; exact h.2
theorem mplus (hp : Sz p) (hq : Sz q) : m_plus (F p) (F q) = .ok (F (p + q)) := by
  unfold m_plus guardR
  rw [if_pos (cw hp.a hq.b), if_pos (cw hq.a hp.b), if_pos (cw hp.b hq.b), frac_eq (Int.mul_pos (F_low p).1 (F_low q).1) (m2 hp.b hq.b)]
  exact congrArg Res.ok (lowT_add p q)
theorem mtimes (hp : Sz p) (hq : Sz q) : m_times (F p) (F q) = .ok (F (p * q)) := by
  unfold m_times guardR
  rw [if_pos (cw hp.a hq.a), if_pos (cw hp.b hq.b), frac_eq (Int.mul_pos (F_low p).1 (F_low q).1) (m2 hp.b hq.b)]
  exact congrArg Res.ok (lowT_mul p q)
theorem lplus (hp : Sz p) (hq : Sz q) : l_plus (F p) (F q) = .ok (F (p + q)) := by
  unfold l_plus guardR
  rw [if_pos (cw hp.a hq.b), if_pos (cw hq.a hp.b), if_pos (cw hp.b hq.b), lowest_eq (Int.mul_pos (F_low p).1 (F_low q).1) (m2 hp.b hq.b)]
  exact congrArg Res.ok (lowT_add p q)
theorem lminus (hp : Sz p) (hq : Sz q) : l_minus (F p) (F q) = .ok (F (p - q)) := by
  unfold l_minus guardR
  rw [if_pos (cw hp.a hq.b), if_pos (cw hq.a hp.b), if_pos (cw hp.b hq.b), lowest_eq (Int.mul_pos (F_low p).1 (F_low q).1) (m2 hp.b hq.b)]
  exact congrArg Res.ok (lowT_sub p q)
theorem ltimes (hp : Sz p) (hq : Sz q) : l_times (F p) (F q) = .ok (F (p * q)) := by
  unfold l_times guardR
  rw [if_pos (cw hp.a hq.a), if_pos (cw hp.b hq.b), lowest_eq (Int.mul_pos (F_low p).1 (F_low q).1) (m2 hp.b hq.b)]
  exact congrArg Res.ok (lowT_mul p q)
theorem lt_F (p q : Rat) : decide ((F p).a * (F q).b < (F q).a * (F p).b) = decide (p < q) := decide_eq_decide.mpr (Rat.lt_iff p q).symm
theorem mless (hp : Sz p) (hq : Sz q) : m_less (F p) (F q) = .ok (decide (p < q)) := by
  unfold m_less guardR
  rw [if_pos (cw hp.a hq.b), if_pos (cw hq.a hp.b), lt_F]
theorem lless (hp : Sz p) (hq : Sz q) : l_less (F p) (F q) = .ok (decide (p < q)) := by
  unfold l_less guardR
  rw [if_pos (cw hp.a hq.b), if_pos (cw hq.a hp.b), lt_F]
end
/-! ## a fraction is compared, is none, is one -/
theorem eqF (p q : Rat) : eqD (enc (F p)) (enc (F q)) = decide (p = q) := by
  have e : eqD (enc (F p)) (enc (F q)) = (decide (p.num = q.num) && (decide ((p.den : Int) = (q.den : Int)) && true)) := rfl
  rw [e, Bool.and_true, ← Bool.decide_and]
  exact decide_eq_decide.mpr ⟨fun h => Rat.ext h.1 (by have := h.2; omega), fun h => by rw [h]; exact ⟨rfl, rfl⟩⟩
theorem okF (p q : Rat) : okEq (enc (F p)) (enc (F q)) := okEq_of rfl rfl
theorem okO (o o' : Option Rat) : okEq (enc (o.map F)) (enc (o'.map F)) := by cases o <;> cases o' <;> exact okEq_of rfl rfl
theorem eqO (o o' : Option Rat) : eqD (enc (o.map F)) (enc (o'.map F)) = decide (o = o') := by
  cases o with
  | none => cases o' <;> rfl
  | some p => cases o' with
    | none => rfl
    | some q =>
      have e : eqD (enc ((some p).map F)) (enc ((some q).map F)) = eqD (enc (F p)) (enc (F q)) := rfl
      rw [e, eqF]
      exact decide_eq_decide.mpr ⟨fun h => by rw [h], fun h => Option.some.inj h⟩
theorem isn (o : Option Rat) : isNonD (enc (o.map F)) = o.isNone := by cases o <;> rfl
theorem isfrac (p q : Int) : m_is_fraction (.tup [.int p, .int q]) = .ok (decide (0 < q) && decide (Int.gcd p q = 1)) := by
  have e : m_is_fraction (.tup [.int p, .int q]) = (if (decide (q < 1)) = true then .ok false else (m_divisor p q).bind fun x42 => .ok (decide (x42 = 1))) := rfl
  rw [e]
  by_cases h : q < 1
  · rw [if_pos (decide_eq_true h), decide_eq_false (by omega)]; rfl
  · rw [if_neg (by simpa using h), div_ok, decide_eq_true (by omega)]
    show Res.ok (decide (((Int.gcd p q : Nat) : Int) = 1)) = Res.ok (true && decide (Int.gcd p q = 1))
    rw [Bool.true_and]
    exact congrArg Res.ok (decide_eq_decide.mpr (by omega))
theorem isfracF (q : Rat) : m_is_fraction (enc (F q)) = .ok true := (isfrac _ _).trans (by rw [decide_eq_true (F_low q).1, decide_eq_true (F_low q).2]; rfl)
theorem ismomF {q : Rat} (h : 0 ≤ q) : m_is_moment (enc (F q)) = .ok true := by
  unfold m_is_moment
  rw [isfracF]
  show Res.ok (decide (0 ≤ q.num)) = _
  rw [decide_eq_true (Rat.num_nonneg.mpr h)]
theorem F0 : (⟨0, 1⟩ : Fr) = F 0 := rfl
theorem F1 : (⟨1, 1⟩ : Fr) = F 1 := rfl
/-- a good edit, of a size -/
structure Ge (D N : Nat) (e : Er) : Prop where
  g : GoodE e
  s : Dv D N e.s
  r : Dv D N e.r
  b : ∀ x, e.b = some x → Dv D N x
theorem Ge.to {D E N M : Nat} {e : Er} (h : Ge D N e) (hd : D ∣ E) (hn : N ≤ M) : Ge E M e := ⟨h.g, h.s.to hd hn, h.r.to hd hn, fun x q => (h.b x q).to hd hn⟩
theorem Sz0 : Sz 0 := ⟨by show (0 : Nat) < 2 ^ 4400; exact Nat.pow_pos (by decide), by show (1 : Nat) < 2 ^ 4400; exact Nat.one_lt_two_pow (by decide)⟩
theorem isedit {e : Er} (h : GoodE e) (hs : Sz e.s) : m_is_edit (enc (G e)) = .ok true := by
  have e1 : m_is_edit (enc (G e)) = (m_is_fraction (enc (F e.s))).bind fun x28 => (if x28 = true then (asD Fr (enc (F e.s))).bind fun x35 => (m_less (⟨0, 1⟩ : Fr) x35).bind fun x38 => (if x38 = true then (m_is_moment (enc (F e.r))).bind fun x44 => (if x44 = true then (if (isNonD (enc (e.b.map F))) = true then guardR (okEq (enc (F e.r)) (enc (⟨0, 1⟩ : Fr))) <| .ok (eqD (enc (F e.r)) (enc (⟨0, 1⟩ : Fr))) else (m_is_moment (enc (e.b.map F))).bind fun x51 => .ok x51) else .ok false) else .ok false) else .ok false) := rfl
  have ea : asD Fr (enc (F e.s)) = .ok (F e.s) := rfl
  have q : Ok (m_is_edit (enc (G e))) fun r => r = true := by
    rw [e1]
    refine Ok.bindE (isfracF _) (Ok.iteT rfl (Ok.bindE ea (Ok.bindE (by rw [F0]; exact mless Sz0 hs) (Ok.iteT (decide_eq_true h.s) (Ok.bindE (ismomF h.r) (Ok.iteT rfl ?_))))))
    cases eb : e.b with
    | none => exact Ok.iteT rfl (by rw [h.n eb]; exact Ok.guard (okEq_of rfl rfl) (Ok.pure (eqD_refl rfl)))
    | some x => exact Ok.iteF rfl (Ok.bindE (ismomF (q := x) (h.b x eb)) (Ok.pure rfl))
  obtain ⟨r, e, rfl⟩ := q
  exact e
theorem sure_e {l : List Er} (hl : l.length ≤ 1000000) (h : ∀ e ∈ l, GoodE e ∧ Sz e.s) : m_sure_edits (l.map G) = .ok () := by
  have e0 : m_is_edits (l.map G) = .ok true := by
    have q : compR (l.map G) () (fun x12 (_ : Unit) => (m_is_edit (enc x12)).bind fun x28 => (.ok (some x28, ()) : Res (Option Bool × Unit))) = .ok ((l.map G).map (fun _ => true), ()) :=
      compR_map (g := fun _ => true) (by rw [List.length_map]; exact hl) fun x m => by
        obtain ⟨e, me, rfl⟩ := List.mem_map.mp m
        rw [isedit (h e me).1 (h e me).2]
        rfl
    unfold m_is_edits
    rw [if_pos (show isA "list" (enc (l.map G)) = true from rfl), q]
    show Res.ok (((l.map G).map (fun _ => true)).all id) = _
    congr 1
    simp
  unfold m_sure_edits
  rw [e0]
  rfl
theorem ledby_m {D N : Nat} {e : Er} {t : Rat} (b : Big D N) (h : Ge D N e) (ht : Dv D N t) : m_led_by (G e) (F t) = .ok ((byR e t).map F) := by
  unfold m_led_by byR
  show (if isNonD (enc (e.b.map F)) = true then _ else (m_times (F e.r) (F t)).bind fun x19 => (someR (e.b.map F)).bind fun x26 => (m_plus x26 x19).bind fun x29 => .ok (some x29)) = _
  cases eb : e.b with
  | none => rfl
  | some x =>
    rw [if_neg (show ¬ (isNonD (enc ((some x).map F)) = true) from fun z => nomatch z), mtimes (b.sz h.r) (b.sz ht)]
    show (m_plus (F x) (F (e.r * t))).bind _ = _
    rw [mplus (b.sz (h.b x eb)) (b.sz2 h.r ht)]
    rfl
theorem led_l {D N : Nat} (b : Big D N) : ∀ (l : List Er) (t : Rat), 0 ≤ t → Dv D N t → (∀ e ∈ l, Ge D N e) → l_led (l.map G) (F t) = .ok ((ledR l t).map F)
  | [], t, _, _, _ => rfl
  | e :: l, t, h0, ht, h => by
    have ge := h e List.mem_cons_self
    have st := b.sz ht
    have e2 : l_led ((e :: l).map G) (F t) = (l_less (F t) (F e.s)).bind fun x34 => (if x34 = true then (if (isNonD (enc (e.b.map F))) = true then .ok none else (l_times (F e.r) (F t)).bind fun x40 => (someR (e.b.map F)).bind fun x46 => (l_plus x46 x40).bind fun x49 => .ok (some x49)) else (l_minus (F t) (F e.s)).bind fun x55 => l_led (l.map G) x55) := by
      unfold l_led
      conv => lhs; unfold forR
      show Res.bind (Res.bind ((l_less (F t) (F e.s)).bind _) _) _ = _
      cases l_less (F t) (F e.s) with
      | err e => rfl
      | stuck => rfl
      | ok c =>
        cases c
        · show Res.bind (Res.bind ((l_minus (F t) (F e.s)).bind _) _) _ = (l_minus (F t) (F e.s)).bind _
          cases l_minus (F t) (F e.s) <;> rfl
        · show Res.bind (Res.bind (if isNonD (enc (e.b.map F)) = true then _ else _) _) _ = (if isNonD (enc (e.b.map F)) = true then _ else _)
          cases eb : e.b with
          | none => rfl
          | some x =>
            show Res.bind (Res.bind ((l_times (F e.r) (F t)).bind _) _) _ = (l_times (F e.r) (F t)).bind _
            cases l_times (F e.r) (F t) with
            | err e => rfl
            | stuck => rfl
            | ok y =>
              have es : someR (G e).b = .ok (F x) := by show someR (e.b.map F) = _; rw [eb]; rfl
              show Res.bind (Res.bind ((someR (G e).b).bind _) _) _ = (l_plus (F x) y).bind _
              rw [es]
              show Res.bind (Res.bind ((l_plus (F x) y).bind _) _) _ = (l_plus (F x) y).bind _
              cases l_plus (F x) y <;> rfl
    rw [e2, lless st (b.sz ge.s)]
    by_cases c : t < e.s
    · rw [decide_eq_true c, led_cons_lt c]
      show (if isNonD (enc (e.b.map F)) = true then _ else _) = _
      unfold byR
      cases eb : e.b with
      | none => rfl
      | some x =>
        show (l_times (F e.r) (F t)).bind _ = _
        rw [ltimes (b.sz ge.r) st]
        show (l_plus (F x) (F (e.r * t))).bind _ = _
        rw [lplus (b.sz (ge.b x eb)) (b.sz2 ge.r ht)]
        rfl
    · rw [decide_eq_false c, led_cons_ge (by grind)]
      show (l_minus (F t) (F e.s)).bind _ = _
      rw [lminus st (b.sz ge.s)]
      exact led_l b l (t - e.s) (by grind) (ht.mid (ht.sub ge.s) (by grind) (by have := ge.g.s; grind)) fun y m => h y (List.mem_cons_of_mem _ m)
theorem noErr_ok {α : Type} {m : Res α} {a : α} (h : m = .ok a) : m.noErr = .ok a := by rw [h]; rfl
end A

set_option Elab.async false
set_option linter.all false
set_option maxRecDepth 100000
set_option maxHeartbeats 2000000
namespace A
open PySem PySem.Spec PyProof.Rows L2 Y
open Y.Enc (enc)
/-! # tidy and what is tidy -/
theorem eqOk_ed (e : Ed) : eqOk 19 (enc e) = true := by
  obtain ⟨a, b, c⟩ := e
  cases b <;> rfl
theorem eqOk_eds (l : List Ed) : eqOk 20 (enc l) = true := by
  show eqOks 19 (l.map enc) = true
  induction l with
  | nil => rfl
  | cons x xs ih => show (eqOk 19 (enc x) && eqOks 19 (xs.map enc)) = true; rw [ih, eqOk_ed]; rfl
theorem flat_eds (l : List Ed) : flatD (enc l) = true := (eqOk_flat _ 20 (eqOk_eds l)).1
theorem eq_eds (l : List Ed) : eqD (enc l) (enc l) = true := eqD_refl (flat_eds l)
theorem ok_eds (l m : List Ed) : okEq (enc l) (enc m) := okEq_of (eqOk_eds l) (eqOk_eds m)
theorem ok_nil (l : List Ed) : okEq (enc l) (enc ([] : List D)) := okEq_of (eqOk_eds l) rfl
theorem eq_nil (l : List Ed) : eqD (enc l) (enc ([] : List D)) = l.isEmpty := by cases l <;> rfl
theorem ix_last {α : Type} {pre : List α} {f : α} : ixR (pre ++ [f]) (-1) = .ok f := by
  have e : ixN (pre ++ [f]).length (-1) = some pre.length := by
    unfold ixN
    rw [List.length_append, List.length_singleton]
    simp
    constructor <;> omega
  unfold ixR atI
  rw [e]
  simp
theorem popE_last {α : Type} {pre : List α} {f : α} : popE (pre ++ [f]) = .ok (f, pre) := by
  unfold popE
  simp
/-- a loop over g's of things; I of the things that are left -/
theorem Ok.forM {α β S R : Type} {g : β → α} {f : α → S → Res (Fl S R)} (I : List β → S → Prop) (hf : ∀ x xs s, I (x :: xs) s → Ok (f (g x) s) fun r => ∃ s', r = .nx s' ∧ I xs s') : ∀ {l : List β} {s : S}, I l s → Ok (forR (l.map g) s f) fun r => ∃ s', r = .nx s' ∧ I [] s'
  | [], s, h => ⟨_, rfl, s, rfl, h⟩
  | x :: xs, s, h => by
    refine Ok.bind (hf x xs s h) ?_
    rintro r ⟨s', rfl, h'⟩
    exact Ok.forM I hf h'
theorem goes_m {D N : Nat} {e f : Er} (b : Big D N) (he : Ge D N e) (hs : Dv D N e.s) : m_goes_on (G e) (G f) = .ok (onB e f) := by
  have e0 : m_goes_on (G e) (G f) = ((if (isNonD (enc (e.b.map F))) = true then .ok true else .ok (isNonD (enc (f.b.map F)))) : Res Bool).bind fun b16 => (if b16 = true then (if (isNonD (enc (e.b.map F))) = true then .ok (isNonD (enc (f.b.map F))) else .ok false) else guardR (okEq (enc (F e.r)) (enc (F f.r))) <| (if (eqD (enc (F e.r)) (enc (F f.r))) = true then (m_led_by (G e) (F e.s)).bind fun x56 => guardR (okEq (enc (f.b.map F)) (enc x56)) <| .ok (eqD (enc (f.b.map F)) (enc x56)) else .ok false)) := rfl
  rw [e0, ledby_m b he hs]
  unfold onB byR
  cases eb : e.b with
  | none => cases fb : f.b <;> rfl
  | some x => cases fb : f.b with
    | none => rfl
    | some y =>
      show guardR (okEq (enc (F e.r)) (enc (F f.r))) (if (eqD (enc (F e.r)) (enc (F f.r))) = true then guardR (okEq (enc ((some y).map F)) (enc ((some (x + e.r * e.s)).map F))) (.ok (eqD (enc ((some y).map F)) (enc ((some (x + e.r * e.s)).map F)))) else .ok false) = .ok (decide (e.r = f.r) && decide (y = x + e.r * e.s))
      rw [eqF, eqO]
      unfold guardR
      rw [if_pos (okF _ _), if_pos (okO _ _)]
      by_cases c : e.r = f.r
      · rw [if_pos (decide_eq_true c), decide_eq_true c, Bool.true_and]
        exact congrArg Res.ok (decide_eq_decide.mpr ⟨fun h => Option.some.inj h, fun h => by rw [h]⟩)
      · rw [if_neg (by simpa using c), decide_eq_false c]
        rfl
theorem push_ge {D N M : Nat} {st : List Er} {e : Er} (h : ∀ x ∈ st, Ge D N x) (he : Ge D M e) : ∀ x ∈ pushR st e, Ge D (N + M) x := by
  intro x m
  unfold pushR at m
  cases st with
  | nil => rw [List.mem_singleton.mp m]; exact he.to (Nat.dvd_refl _) (by omega)
  | cons a r =>
    simp only at m
    by_cases c : onB a e = true
    · rw [if_pos c] at m
      rcases List.mem_cons.mp m with rfl | m
      · have ha := h a List.mem_cons_self
        exact ⟨⟨by show 0 < a.s + e.s; have := ha.g.s; have := he.g.s; grind, ha.g.r, ha.g.b, ha.g.n⟩, ha.s.add he.s, ha.r.up (by omega), fun x q => (ha.b x q).up (by omega)⟩
      · exact (h x (List.mem_cons_of_mem _ m)).to (Nat.dvd_refl _) (by omega)
    · rw [if_neg c] at m
      rcases List.mem_cons.mp m with rfl | m
      · exact he.to (Nat.dvd_refl _) (by omega)
      · exact (h x m).to (Nat.dvd_refl _) (by omega)
theorem push_len (st : List Er) (e : Er) : (pushR st e).length ≤ st.length + 1 := by
  unfold pushR
  cases st with
  | nil => exact Nat.le_refl _
  | cons a r =>
    simp only
    split
    · exact Nat.le_succ _
    · exact Nat.le_refl _
theorem fold_len : ∀ (l st : List Er), (l.foldl pushR st).length ≤ st.length + l.length
  | [], st => Nat.le_refl _
  | e :: l, st => by
    have h1 := fold_len l (pushR st e)
    have h2 := push_len st e
    show (l.foldl pushR (pushR st e)).length ≤ st.length + (l.length + 1)
    omega
theorem noLast_len (st : List Er) : (noLast st).length ≤ st.length := by
  cases st with
  | nil => exact Nat.le_refl _
  | cons a r =>
    rw [noLast_cons]
    split
    · exact Nat.le_succ _
    · exact Nat.le_refl _
theorem tidy_len (l : List Er) : (tidyR l).length ≤ l.length := by
  unfold tidyR
  rw [List.length_reverse]
  have h1 := fold_len l []
  have h2 := noLast_len (l.foldl pushR [])
  have : ([] : List Er).length = 0 := rfl
  omega
theorem tidy_m {D N : Nat} {l : List Er} (hl : l.length ≤ 100000) (b : Big D (N * (l.length + 1))) (h : ∀ e ∈ l, Ge D N e) : m_tidy (l.map G) = .ok ((tidyR l).map G) ∧ ∀ e ∈ tidyR l, Ge D (N * (l.length + 1)) e := by
  have bN : Big D N := ⟨b.p, b.d, Nat.lt_of_le_of_lt (Nat.le_mul_of_pos_right _ (Nat.succ_pos _)) b.n⟩
  suffices q : Ok (m_tidy (l.map G)) fun r => r = (tidyR l).map G ∧ ∀ e ∈ tidyR l, Ge D (N * (l.length + 1)) e by
    obtain ⟨r, e, rfl, h⟩ := q
    exact ⟨e, h⟩
  unfold m_tidy
  refine Ok.bindE (sure_e (by omega) fun e m => ⟨(h e m).g, bN.sz (h e m).s⟩) ?_
  refine Ok.bind (Ok.forM (fun xs s => ∃ st i, s = st.reverse.map G ∧ (∀ x ∈ st, Ge D (N * i) x) ∧ (∀ x ∈ xs, Ge D N x) ∧ xs.foldl pushR st = l.foldl pushR [] ∧ i + xs.length ≤ l.length ∧ st.length + xs.length ≤ 100000) ?_ (l := l) ⟨[], 0, rfl, fun _ m => (nomatch m), h, rfl, by omega, by show 0 + _ ≤ _; omega⟩) ?_
  · rintro x xs s ⟨st, i, rfl, h1, h2, h3, h4, h5⟩
    have hx := h2 x List.mem_cons_self
    have h4' : i + (xs.length + 1) ≤ l.length := h4
    have h5' : st.length + (xs.length + 1) ≤ 100000 := h5
    have bi : Big D (N * (i + 1)) := ⟨b.p, b.d, Nat.lt_of_le_of_lt (Nat.mul_le_mul_left _ (by omega)) b.n⟩
    have hn : N ≤ N * (i + 1) := Nat.le_mul_of_pos_right _ (Nat.succ_pos _)
    have done : ∃ st' i, (pushR st x).reverse.map G = st'.reverse.map G ∧ (∀ x ∈ st', Ge D (N * i) x) ∧ (∀ x ∈ xs, Ge D N x) ∧ xs.foldl pushR st' = l.foldl pushR [] ∧ i + xs.length ≤ l.length ∧ st'.length + xs.length ≤ 100000 :=
      ⟨pushR st x, i + 1, rfl, fun y m => (push_ge h1 hx y m).to (Nat.dvd_refl _) (by rw [Nat.mul_add, Nat.mul_one]; exact Nat.le_refl _), fun y m => h2 y (List.mem_cons_of_mem _ m), h3, by omega, by have := push_len st x; omega⟩
    have gl : ∀ (pre : List Er) (y : Er), pre.length ≤ 100000 → Ok (guardR ((pre.map G).length < 1000000) (.ok (.nx (pre.map G ++ [G y])) : Res (Fl (List Ed) (List Ed)))) fun r => r = .nx ((pre ++ [y]).map G) := fun pre y hp => Ok.guard (by rw [List.length_map]; omega) (Ok.pure (by rw [List.map_append]; rfl))
    cases st with
    | nil =>
      refine Ok.bind (φ := fun r => r = (G x, ([] : List Ed))) (Ok.bind (φ := fun c => c = false) (Ok.guard (ok_nil _) (Ok.iteF rfl (Ok.pure rfl))) ?_) ?_
      · rintro _ rfl
        exact Ok.iteF rfl (Ok.pure rfl)
      · rintro _ rfl
        refine (gl [] x (by show 0 ≤ _; omega)).mono ?_
        rintro _ rfl
        exact ⟨_, rfl, done⟩
    | cons a r =>
      have ha := h1 a List.mem_cons_self
      have hai : Ge D (N * (i + 1)) a := ha.to (Nat.dvd_refl _) (Nat.mul_le_mul_left _ (by omega))
      have er : ((a :: r).reverse).map G = r.reverse.map G ++ [G a] := by rw [List.reverse_cons, List.map_append]; rfl
      have hr : r.reverse.length ≤ 100000 := by rw [List.length_reverse]; have : (a :: r).length = r.length + 1 := rfl; omega
      have ne : (!(eqD (enc (r.reverse.map G ++ [G a])) (enc ([] : List Y.D)))) = true := by rw [eq_nil]; simp
      rw [er]
      refine Ok.bind (φ := fun p => p.2 ++ [p.1] = (pushR (a :: r) x).reverse.map G ∧ p.2.length < 1000000) (Ok.bind (φ := fun c => c = onB a x) (Ok.guard (ok_nil _) (Ok.iteT ne (Ok.bindE ix_last (Ok.bindE (goes_m bi hai hai.s) (Ok.pure rfl))))) ?_) ?_
      · rintro _ rfl
        refine Ok.ite (fun c => ?_) fun c => ?_
        · refine Ok.bindE popE_last ?_
          refine Ok.bindE (mplus (bi.sz hai.s) (bi.sz (hx.s.up hn))) (Ok.pure ⟨?_, by show (r.reverse.map G).length < _; rw [List.length_map]; omega⟩)
          have : pushR (a :: r) x = mergeR a x :: r := if_pos c
          rw [this, List.reverse_cons, List.map_append]
          rfl
        · refine Ok.pure ⟨?_, by show (r.reverse.map G ++ [G a]).length < _; rw [List.length_append, List.length_map]; show _ + 1 < _; omega⟩
          have : pushR (a :: r) x = x :: a :: r := if_neg (by rw [c]; exact Bool.false_ne_true)
          rw [this, List.reverse_cons (a := x), List.map_append, ← er]
          rfl
      · rintro p ⟨e, hp⟩
        refine Ok.guard hp (Ok.pure ⟨_, rfl, ?_⟩)
        rw [e]
        exact done
  · rintro _ ⟨s, rfl, st, i, rfl, h1, _, h3, h4, h5⟩
    have h3' : st = l.foldl pushR [] := h3
    have hi : i ≤ l.length := h4
    have hge : ∀ e ∈ tidyR l, Ge D (N * (l.length + 1)) e := fun e m => by
      have m' := noLast_mem (List.mem_reverse.mp m)
      rw [← h3'] at m'
      exact (h1 e m').to (Nat.dvd_refl _) (Nat.mul_le_mul_left _ (by omega))
    have et : tidyR l = (noLast st).reverse := by unfold tidyR; rw [← h3']
    show Ok (Res.bind _ _) _
    rw [et] at hge ⊢
    cases st with
    | nil =>
      refine Ok.bind (φ := fun r => r = ([] : List Ed)) (Ok.bind (φ := fun c => c = false) (Ok.guard (ok_nil _) (Ok.iteF rfl (Ok.pure rfl))) ?_) ?_
      · rintro _ rfl
        exact Ok.iteF rfl (Ok.pure rfl)
      · rintro _ rfl
        exact Ok.pure ⟨rfl, hge⟩
    | cons a r =>
      have er : ((a :: r).reverse).map G = r.reverse.map G ++ [G a] := by rw [List.reverse_cons, List.map_append]; rfl
      have ne : (!(eqD (enc (r.reverse.map G ++ [G a])) (enc ([] : List Y.D)))) = true := by rw [eq_nil]; simp
      rw [er]
      refine Ok.bind (φ := fun r' => r' = ((noLast (a :: r)).reverse).map G) (Ok.bind (φ := fun c => c = a.b.isNone) (Ok.guard (ok_nil _) (Ok.iteT ne (Ok.bindE ix_last (Ok.pure (isn a.b))))) ?_) ?_
      · rintro _ rfl
        rw [noLast_cons]
        refine Ok.ite (fun c => ?_) fun c => ?_
        · rw [if_pos (Option.isNone_iff_eq_none.mp c)]
          exact Ok.bindE popE_last (Ok.pure rfl)
        · rw [if_neg (fun z => by rw [z] at c; exact nomatch c), er]
          exact Ok.pure rfl
      · rintro _ rfl
        exact Ok.pure ⟨rfl, hge⟩
theorem tidy_adj : ∀ {l : List Er}, TidyR l → ∀ (k : Nat) (e f : Er), l[k]? = some e → l[k + 1]? = some f → onB e f = false
  | [], _, k, e, f, h, _ => by simp at h
  | [a], _, 0, e, f, _, h => by simp at h
  | [a], _, k + 1, e, f, h, _ => by simp at h
  | a :: c :: l, t, 0, e, f, h1, h2 => by
    simp at h1 h2
    subst h1 h2
    exact t.1
  | a :: c :: l, t, k + 1, e, f, h1, h2 => tidy_adj (l := c :: l) t.2 k e f (by simpa using h1) (by simpa using h2)
theorem tidy_last : ∀ {pre : List Er} {e : Er}, TidyR (pre ++ [e]) → e.b ≠ none
  | [], e, h => h
  | [a], e, h => h.2
  | a :: c :: l, e, h => tidy_last (pre := c :: l) h.2
theorem nil_or (l : List Er) : l = [] ∨ ∃ pre e, l = pre ++ [e] := by
  rcases List.eq_nil_or_concat l with h | ⟨pre, e, h⟩
  · exact .inl h
  · exact .inr ⟨pre, e, by rw [h, List.concat_eq_append]⟩
theorem Ok.ixG {γ δ : Type} {l : List Er} {i : Int} {k : Ed → Res δ} {ψ : δ → Prop} (h0 : 0 ≤ i) (h1 : i < (l.length : Int)) (h : ∀ e, e ∈ l → l[i.toNat]? = some e → Ok (k (G e)) ψ) : Ok ((ixR (l.map G) i).bind k) ψ := by
  refine Ok.ix h0 (by rw [List.length_map]; exact h1) fun x m q => ?_
  rw [List.getElem?_map] at q
  cases e : l[i.toNat]? with
  | none => rw [e] at q; exact nomatch q
  | some y =>
    rw [e] at q
    cases q
    exact h y (List.mem_of_getElem? e) e
theorem mem_rngI {lo hi x : Int} (h : x ∈ rngI lo hi) : lo ≤ x ∧ x < hi := by
  unfold rngI at h
  obtain ⟨i, m, rfl⟩ := List.mem_map.mp h
  have := List.mem_range.mp m
  omega
end A

set_option Elab.async false
set_option linter.all false
set_option maxRecDepth 100000
set_option maxHeartbeats 2000000
namespace A
open PySem PySem.Spec PyProof.Rows L2 Y
open Y.Enc (enc)
theorem istidy_l {D N : Nat} {l : List Er} (hl : l.length ≤ 100000) (b : Big D N) (t : TidyR l) (h : ∀ e ∈ l, Ge D N e) : l_is_tidy (l.map G) = .ok true := by
  suffices q : Ok (l_is_tidy (l.map G)) fun r => r = true by
    obtain ⟨r, e, rfl⟩ := q
    exact e
  unfold l_is_tidy
  refine Ok.bind (φ := fun c => c = false) (Ok.iteT rfl (Ok.guard (ok_nil _) ?_)) ?_
  · rcases nil_or l with rfl | ⟨pre, e, rfl⟩
    · exact Ok.iteF rfl (Ok.pure rfl)
    · rw [List.map_append]
      refine Ok.iteT (by rw [eq_nil]; simp) (Ok.bindE (show ixR (pre.map G ++ [G e]) (-1) = .ok (G e) from ix_last) (Ok.pure ?_))
      have := tidy_last t
      show isNonD (enc (e.b.map F)) = false
      rw [isn]
      cases eb : e.b with
      | none => exact absurd eb this
      | some x => rfl
  rintro _ rfl
  rw [List.length_map]
  refine Ok.iteF rfl (Ok.guard ⟨by omega, by omega⟩ ?_)
  refine Ok.bind (Ok.for (fun _ => True) (fun k u m _ => ?_) (s := ()) trivial) ?_
  · have hk := mem_rngI m
    refine Ok.ixG (γ := Unit) hk.1 (by omega) fun e me qe => ?_
    have hk1 : k.toNat + 1 < l.length := by omega
    obtain ⟨f, qf⟩ : ∃ f, l[k.toNat + 1]? = some f := ⟨_, List.getElem?_eq_getElem hk1⟩
    have hf := tidy_adj t _ e f qe qf
    have next : ixR (l.map G) (k + 1) = .ok (G f) := by
      obtain ⟨r, q, h⟩ := Ok.ixG (γ := Unit) (l := l) (i := k + 1) (k := fun x => .ok x) (ψ := fun x => x = G f) (by omega) (by omega) fun f' m' q' => Ok.pure (by
        rw [show (k + 1).toNat = k.toNat + 1 by omega, qf] at q'
        rw [Option.some.inj q'])
      cases z : ixR (l.map G) (k + 1) with
      | ok y => rw [z] at q; cases q; rw [h]
      | err e => rw [z] at q; exact nomatch q
      | stuck => rw [z] at q; exact nomatch q
    have ge := h e me
    have fn : isNonD (enc (G f).b) = f.b.isNone := isn f.b
    cases eb : e.b with
    | none =>
      have i1 : isNonD (enc (G e).b) = true := by show isNonD (enc (e.b.map F)) = true; rw [eb]; rfl
      refine Ok.bind (φ := fun c => c = false) (Ok.iteT i1 (Ok.bindE next (Ok.pure ?_))) ?_
      · rw [fn]
        unfold onB at hf
        rw [eb] at hf
        cases fb : f.b with
        | none => rw [fb] at hf; exact nomatch hf
        | some y => rfl
      · rintro _ rfl
        refine Ok.iteF rfl (Ok.bind (φ := fun c => c = false) (Ok.iteF (by rw [i1]; rfl) (Ok.pure rfl)) ?_)
        rintro _ rfl
        exact Ok.iteF rfl (Ok.pure ⟨_, rfl, trivial⟩)
    | some x =>
      have i1 : isNonD (enc (G e).b) = false := by show isNonD (enc (e.b.map F)) = false; rw [eb]; rfl
      have es : someR (G e).b = .ok (F x) := by show someR (e.b.map F) = _; rw [eb]; rfl
      refine Ok.bind (φ := fun c => c = false) (Ok.iteF i1 (Ok.pure rfl)) ?_
      rintro _ rfl
      refine Ok.iteF rfl (Ok.bind (φ := fun c => c = true → e.r = f.r) (Ok.iteT (by rw [i1]; rfl) (Ok.bindE next ?_)) ?_)
      · refine Ok.ite (fun _ => Ok.bindE next (Ok.guard (okF _ _) (Ok.pure fun z => ?_))) fun _ => Ok.pure fun z => nomatch z
        have z' : eqD (enc (F e.r)) (enc (F f.r)) = true := z
        rw [eqF] at z'
        exact of_decide_eq_true z'
      · intro c hc
        refine Ok.ite (fun c => ?_) fun _ => Ok.pure ⟨_, rfl, trivial⟩
        have er := hc c
        refine Ok.bindE next (Ok.bindE (ltimes (b.sz ge.r) (b.sz ge.s)) (Ok.bindE es (Ok.bindE (lplus (b.sz (ge.b x eb)) (b.sz2 ge.r ge.s)) ?_)))
        have eq1 : eqD (enc (G f).b) (enc (F (x + e.r * e.s))) = decide (f.b = some (x + e.r * e.s)) := eqO f.b (some (x + e.r * e.s))
        refine Ok.guard (okO f.b (some (x + e.r * e.s))) (Ok.iteF ?_ (Ok.pure ⟨_, rfl, trivial⟩))
        rw [eq1]
        refine decide_eq_false fun z => ?_
        unfold onB at hf
        rw [eb, z] at hf
        simp [er] at hf
  · rintro _ ⟨s, rfl, _⟩
    exact Ok.pure rfl
end A

set_option Elab.async false
set_option linter.all false
set_option maxRecDepth 100000
set_option maxHeartbeats 2000000
namespace A
open PySem PySem.Spec PyProof.Rows L2 Y
open Y.Enc (enc)
/-! # drawn edits -/
def D0 : Nat := 11964035892
def N0 : Nat := 1000000000
def N1 : Nat := 1000000001
def DD : Nat := D0 * D0
def NN : Nat := 20000000000000000000
/-- a moment, of a size -/
def Mo (D N : Nat) (f : Fr) : Prop := ∃ q : Rat, f = F q ∧ 0 ≤ q ∧ Dv D N q
theorem Mo.to {D E N M : Nat} {f : Fr} (h : Mo D N f) (hd : D ∣ E) (hn : N ≤ M) : Mo E M f := by
  obtain ⟨q, e, h0, h⟩ := h
  exact ⟨q, e, h0, h.to hd hn⟩
theorem Mo.div {D N : Nat} {a b : Int} (ha : 0 ≤ a) (hb : 0 < b) (hd : b.toNat ∣ D) (h : a.toNat ≤ N * b.toNat) : Mo D N (F (Rat.divInt a b)) :=
  ⟨_, rfl, Rat.divInt_nonneg ha (Int.le_of_lt hb), Dv.of hb hd (by rw [show a.natAbs = a.toNat by omega]; exact h)⟩
theorem Mo.int {D N : Nat} {a : Int} (ha : 0 ≤ a) (h : a.toNat ≤ N) : Mo D N (⟨a, 1⟩ : Fr) :=
  ⟨(a : Rat), rfl, Rat.intCast_nonneg.mpr ha, Dv.int (by omega)⟩
/-- a fraction that the law makes -/
theorem Ok.low {β : Type} {a b : Int} {k : Fr → Res β} {ψ : β → Prop} (hb : 0 < b) (hs : b < 18446744073709551616) (h : Ok (k (F (Rat.divInt a b))) ψ) : Ok ((l_lowest a b).bind k) ψ :=
  Ok.bindE (lowest_F hb (Nat.lt_of_lt_of_le (show b.natAbs < 2 ^ 64 by omega) (Nat.pow_le_pow_right (by decide) (by decide)))) h
theorem dvd14 {x : Int} (h0 : 0 ≤ x) (h : x < 4) : (1 + x).toNat ∣ D0 := by
  have : x = 0 ∨ x = 1 ∨ x = 2 ∨ x = 3 := by omega
  rcases this with rfl | rfl | rfl | rfl <;> decide
theorem amount_ok {st : List Int} (h : Gd st) : Ok (l_amount st) fun r => Mo D0 N0 r.1 ∧ r.2.length = 3 := by
  unfold l_amount
  refine dg h (by decide) (bg (by decide)) fun x1 s1 a1 b1 h1 => ?_
  refine dg (gd3 h1) (by decide) (bg (by decide)) fun x2 s2 a2 b2 h2 => ?_
  refine dg (gd3 h2) (by decide) (bg (by decide)) fun x3 s3 a3 b3 h3 => ?_
  refine Ok.low (by omega) (by omega) ?_
  refine dg (gd3 h3) (by decide) (bg (by decide)) fun x4 s4 a4 b4 h4 => ?_
  refine dg (gd3 h4) (by decide) (bg (by decide)) fun x5 s5 a5 b5 h5 => ?_
  refine Ok.low (by decide) (by decide) ?_
  refine dg (gd3 h5) (by decide) (bg (by decide)) fun x6 s6 a6 b6 h6 => ?_
  refine Ok.low (by decide) (by decide) ?_
  refine dg (gd3 h6) (by decide) (bg (by decide)) fun x7 s7 a7 b7 h7 => ?_
  refine Ok.ixm a1 b1 fun z m => Ok.pure ⟨?_, h7⟩
  have c1 : Mo D0 N0 (F (Rat.divInt x2 (1 + x3))) := Mo.div a2 (by omega) (dvd14 a3 b3) (by unfold N0; omega)
  have c2 : Mo D0 N0 (F (Rat.divInt (x4 * 1000000 + x5) 1000003)) := Mo.div (by omega) (by decide) (by decide) (by unfold N0; omega)
  have c3 : Mo D0 N0 (F (Rat.divInt x6 997)) := Mo.div a6 (by decide) (by decide) (by unfold N0; omega)
  have c4 : Mo D0 N0 (⟨x7, 1⟩ : Fr) := Mo.int a7 (by unfold N0; omega)
  have c5 : Mo D0 N0 (⟨0, 1⟩ : Fr) := Mo.int (by decide) (by decide)
  simp only [List.mem_cons, List.not_mem_nil, or_false] at m
  rcases m with rfl | rfl | rfl | rfl | rfl | rfl | rfl <;> assumption
/-- an edit as drawn -/
structure GX (N : Nat) (e : Er) : Prop where
  g : GoodE e
  s : Dv D0 N1 e.s
  r : Dv D0 N0 e.r
  b : ∀ x, e.b = some x → Dv DD N x
theorem GX.up {N M : Nat} {e : Er} (h : GX N e) (hn : N ≤ M) : GX M e := ⟨h.g, h.s, h.r, fun x q => (h.b x q).up hn⟩
theorem GX.ge {N : Nat} {e : Er} (h : GX N e) (hn : N ≤ NN) : Ge DD NN e := ⟨h.g, h.s.to (Nat.dvd_mul_right ..) (by decide), h.r.to (Nat.dvd_mul_right ..) (by decide), fun x q => (h.b x q).up hn⟩
theorem low64 {n : Nat} (h : n < 2 ^ 256) : n < 2 ^ 400 := pow_up h (by decide)
theorem big_of {D N : Nat} (hp : 0 < D := by decide) (hd : D < 2 ^ 256 := by decide) (hn : N < 2 ^ 256 := by decide) : Big D N := ⟨hp, pow_up hd (by decide), low64 hn⟩
theorem bigDN2 {l : List Er} (hl : l.length ≤ 6) : Big DD (NN * (l.length + 1)) := ⟨(big_of (D := DD) (N := 0)).p, (big_of (D := DD) (N := 0)).d, Nat.lt_of_le_of_lt (Nat.mul_le_mul_left _ (show l.length + 1 ≤ 7 by omega)) (big_of (D := DD) (N := NN * 7)).n⟩
theorem big00 : Big D0 N1 := big_of
theorem bigDN : Big DD NN := big_of
theorem mo01 : Mo D0 N0 (⟨0, 1⟩ : Fr) := Mo.int (by decide) (by decide)
theorem edit_ok {st : List Int} {l : List Er} {N : Nat} (h : Gd st) (hN : N0 ≤ N) (hk : N ≤ NN) (hl : ∀ e ∈ l, GX N e) (hlen : l.length ≤ 100000) : Ok (l_edit st (l.map G)) fun r => (∃ e, r.1 = G e ∧ GX (N + N0 * N1) e) ∧ r.2.length = 3 := by
  unfold l_edit
  refine dg h (by decide) (bg (by decide)) fun x1 s1 a1 b1 h1 => ?_
  refine Ok.bind (amount_ok (gd3 h1)) fun ⟨am, s2⟩ ⟨⟨q1, eq1, q10, q1d⟩, h2⟩ => ?_
  refine dg (gd3 h2) (by decide) (bg (by decide)) fun x3 s3 a3 b3 h3 => ?_
  refine Ok.low (by omega) (by omega) ?_
  have bq : Dv D0 1 (Rat.divInt 1 (1 + x3)) := Dv.of (by omega) (dvd14 a3 (by omega)) (by show 1 ≤ 1 * _; omega)
  have pq : 0 < Rat.divInt 1 (1 + x3) := by
    have h0 : 0 ≤ Rat.divInt 1 (1 + x3) := Rat.divInt_nonneg (by decide) (by omega)
    have h1 : Rat.divInt 1 (1 + x3) ≠ 0 := by
      rw [Rat.divInt_eq_div, Rat.div_def]
      intro z
      rcases Rat.mul_eq_zero.mp z with z | z
      · exact absurd z (by decide)
      · have h3 : ((1 + x3 : Int) : Rat) ≠ 0 := fun y => by have := Rat.intCast_eq_zero_iff.mp y; omega
        have h4 := Rat.mul_inv_cancel _ h3
        rw [z, Rat.mul_zero] at h4
        exact absurd h4 (by decide)
    grind
  subst eq1
  refine Ok.bindE (lplus (big00.sz (q1d.up (by decide))) (big00.sz (bq.up (by decide)))) ?_
  simp only
  have bs : Dv D0 N1 (q1 + Rat.divInt 1 (1 + x3)) := (q1d.add bq).up (by decide)
  have ps : 0 < q1 + Rat.divInt 1 (1 + x3) := by grind
  generalize q1 + Rat.divInt 1 (1 + x3) = sp at *
  refine Ok.bind (amount_ok (gd3 h3)) fun ⟨stt, s4⟩ ⟨⟨q2, eq2, q20, q2d⟩, h4⟩ => ?_
  refine Ok.bind (amount_ok (gd3 h4)) fun ⟨rt, s5⟩ ⟨brt, h5⟩ => ?_
  refine dg (gd3 h5) (by decide) (bg (by decide)) fun x6 s6 a6 b6 h6 => Ok.ixm a6 b6 fun rate m => ?_
  have br : Mo D0 N0 rate := by
    have d1 : Mo D0 N0 (⟨1, 1⟩ : Fr) := Mo.int (by decide) (by decide)
    have d2 : Mo D0 N0 (⟨0, 1⟩ : Fr) := Mo.int (by decide) (by decide)
    have d3 : Mo D0 N0 (⟨2, 1⟩ : Fr) := Mo.int (by decide) (by decide)
    have d4 : Mo D0 N0 (⟨1, 2⟩ : Fr) := ⟨Rat.divInt 1 2, (low_eq (f := ⟨1, 2⟩) (a := 1) (b := 2) ⟨by decide, by decide⟩ (by decide) (by decide)).symm.trans (lowT_F (by decide)), Rat.divInt_nonneg (by decide) (by decide), Dv.of (by decide) (by decide) (by decide)⟩
    simp only [List.mem_cons, List.not_mem_nil, or_false] at m
    rcases m with rfl | rfl | rfl | rfl | rfl | rfl <;> assumption
  have DDd : D0 ∣ DD := Nat.dvd_mul_right ..
  obtain ⟨rr, err, rr0, rrd⟩ := br
  refine Ok.ite (fun _ => Ok.pure ⟨⟨⟨sp, none, 0⟩, rfl, ⟨ps, Rat.le_refl, (fun x q => nomatch q), fun _ => rfl⟩, bs, Dv.int (a := 0) (by decide), (fun x q => nomatch q)⟩, h6⟩) fun _ => ?_
  refine Ok.bind (φ := fun b => b = true → ∃ pre e s, l = pre ++ [e] ∧ e.b = some s) (Ok.ite (fun _ => Ok.guard (ok_nil _) (Ok.ite (fun c => ?_) fun _ => Ok.pure fun z => nomatch z)) fun _ => Ok.pure fun z => nomatch z) fun b hb => Ok.ite (fun c => ?_) fun _ => ?_
  · rcases nil_or l with rfl | ⟨pre, e, rfl⟩
    · exact nomatch c
    · rw [List.map_append]
      refine Ok.bindE (show ixR (pre.map G ++ [G e]) (-1) = .ok (G e) from ix_last) (Ok.pure fun z => ⟨pre, e, ?_⟩)
      cases eb : e.b with
      | none =>
        have : (!isNonD (enc (e.b.map F))) = true := z
        rw [eb] at this
        exact nomatch this
      | some s => exact ⟨s, rfl, rfl⟩
  · obtain ⟨pre, e, s, rfl, eb⟩ := hb c
    have ge := hl e (List.mem_append_right _ (List.mem_singleton.mpr rfl))
    have bss := ge.b s eb
    have es : someR (G e).b = .ok (F s) := by show someR (e.b.map F) = _; rw [eb]; rfl
    rw [List.map_append]
    refine Ok.bindE (show ixR (pre.map G ++ [G e]) (-1) = .ok (G e) from ix_last) (Ok.bindE (ltimes (big00.sz (ge.r.up (by decide))) (big00.sz ge.s)) (Ok.bindE es ?_))
    refine Ok.bindE (lplus (bigDN.sz (bss.up hk)) (big00.sz2 (ge.r.up (by decide)) ge.s)) (Ok.pure ⟨⟨⟨sp, some (s + e.r * e.s), e.r⟩, rfl, ⟨ps, ge.g.r, fun x q => ?_, fun q => nomatch q⟩, bs, ge.r, fun x q => ?_⟩, h6⟩)
    · cases q
      have := ge.g.b s eb
      have := Rat.mul_nonneg ge.g.r (show 0 ≤ e.s by have := ge.g.s; grind)
      grind
    · cases q
      exact bss.add (ge.r.mul ge.s)
  · subst err eq2
    exact Ok.pure ⟨⟨⟨sp, some q2, rr⟩, rfl, ⟨ps, rr0, (fun x q => by cases q; exact q20), fun q => nomatch q⟩, bs, rrd, fun x q => by cases q; exact q2d.to DDd (by omega)⟩, h6⟩
theorem forN {α S R : Type} {f : α → S → Res (Fl S R)} (N : Nat) (I : Nat → S → Prop) : ∀ {l : List α}, (∀ x s i, x ∈ l → i < N → I i s → Ok (f x s) fun r => ∃ s', r = .nx s' ∧ I (i + 1) s') → ∀ {s i}, i + l.length ≤ N → I i s → Ok (forR l s f) fun r => ∃ s', r = .nx s' ∧ I (i + l.length) s' := by
  intro l
  induction l with
  | nil => intro _ s i _ h; exact ⟨_, rfl, s, rfl, h⟩
  | cons x xs ih =>
    intro hf s i hk h
    have hk' : i + (xs.length + 1) ≤ N := hk
    refine Ok.bind (hf x s i List.mem_cons_self (by omega) h) ?_
    rintro r ⟨s', rfl, h'⟩
    refine (ih (fun y s i m => hf y s i (List.mem_cons_of_mem _ m)) (i := i + 1) (by omega) h').mono ?_
    rintro r ⟨s2, e, q⟩
    exact ⟨s2, e, by rw [show i + (x :: xs).length = i + 1 + xs.length from by rw [List.length_cons]; omega]; exact q⟩
theorem rngI_len (n : Int) : (rngI 0 n).length = n.toNat := by unfold rngI; simp
theorem edits_okX {st : List Int} {n : Int} (h : Gd st) (hn0 : 0 ≤ n) (hn : n ≤ 12) : Ok (l_edits st n) fun r => (∃ l : List Er, r.1 = l.map G ∧ l.length ≤ n.toNat ∧ ∀ e ∈ l, GX NN e) ∧ r.2.length = 3 := by
  unfold l_edits
  refine dg h (by omega) (bg (by omega)) fun x1 s1 a1 b1 h1 => Ok.guard (by omega) ?_
  have NN_ : ∀ i, i < 12 → N0 + N0 * N1 * (i + 1) ≤ NN := fun i hi => by unfold N0 N1 NN; omega
  refine Ok.bind (forN 12 (fun i (s : List Ed × List Int) => ∃ l : List Er, s.1 = l.map G ∧ l.length = i ∧ s.2.length = 3 ∧ ∀ e ∈ l, GX (N0 + N0 * N1 * i) e) (fun x s i _ hi hI => ?_) (i := 0) (by rw [rngI_len]; omega) ⟨[], rfl, rfl, h1, fun _ m => nomatch m⟩) ?_
  · obtain ⟨l, e1, hl, h3, hg⟩ := hI
    obtain ⟨s1, s2⟩ := s
    simp only at e1 h3
    subst e1
    have hNi := NN_ i hi
    refine Ok.bind (edit_ok (gd3 h3) (Nat.le_add_right ..) (by rw [Nat.mul_add, Nat.mul_one] at hNi; omega) hg (by omega)) ?_
    rintro ⟨y, s3⟩ ⟨⟨e, ey, ge⟩, g2⟩
    simp only at ey g2
    subst ey
    refine Ok.guard (by rw [List.length_map]; omega) (Ok.pure ⟨_, rfl, l ++ [e], by rw [List.map_append]; rfl, by rw [List.length_append, hl]; rfl, g2, fun y m => ?_⟩)
    rcases List.mem_append.mp m with m | m
    · exact (hg y m).up (Nat.add_le_add_left (Nat.mul_le_mul_left _ (by omega)) _)
    · rw [List.mem_singleton.mp m]
      exact ge.up (by rw [Nat.mul_add, Nat.mul_one]; omega)
  · rintro _ ⟨s, rfl, l, e1, hl, h3, hg⟩
    rw [rngI_len] at hl hg
    refine Ok.pure ⟨⟨l, e1, by omega, fun e m => (hg e m).up ?_⟩, h3⟩
    exact Nat.le_trans (Nat.add_le_add_left (Nat.mul_le_mul_left _ (show 0 + x1.toNat ≤ 11 + 1 by omega)) _) (NN_ 11 (by decide))
theorem edits_ok {st : List Int} {n : Int} (h : Gd st) (hn0 : 0 ≤ n) (hn : n ≤ 12) : Ok (l_edits st n) fun r => (∃ l : List Er, r.1 = l.map G ∧ l.length ≤ n.toNat ∧ ∀ e ∈ l, Ge DD NN e) ∧ r.2.length = 3 :=
  (edits_okX h hn0 hn).mono fun r ⟨⟨l, e, hl, g⟩, h3⟩ => ⟨⟨l, e, hl, fun e m => (g e m).ge (Nat.le_refl _)⟩, h3⟩
end A

set_option Elab.async false
set_option linter.all false
set_option maxRecDepth 100000
set_option maxHeartbeats 2000000
namespace A
open PySem PySem.Spec PyProof.Rows L2 Y
open Y.Enc (enc)
/-! # pieces within a stretch -/
theorem Big.sub {D N M : Nat} (b : Big (D * D) N) (h : M ≤ N) : Big D M := by
  have hp : 0 < D := Nat.pos_of_ne_zero fun z => by have := b.p; rw [z] at this; exact absurd this (by decide)
  exact ⟨hp, Nat.lt_of_le_of_lt (Nat.le_mul_of_pos_right _ hp) b.d, Nat.lt_of_le_of_lt h b.n⟩
theorem Big.less {D N M : Nat} (b : Big D N) (h : M ≤ N) : Big D M := ⟨b.p, b.d, Nat.lt_of_le_of_lt h b.n⟩
theorem mminus {p q : Rat} (hp : Sz p) (hq : Sz q) : m_minus (F p) (F q) = .ok (F (p - q)) := by
  unfold m_minus guardR
  rw [if_pos (cw hp.a hq.b), if_pos (cw hq.a hp.b), if_pos (cw hp.b hq.b), frac_eq (Int.mul_pos (F_low p).1 (F_low q).1) (m2 hp.b hq.b)]
  exact congrArg Res.ok (lowT_sub p q)
theorem later_m {p q : Rat} (hp : Sz p) (hq : Sz q) : m_later_of (F p) (F q) = .ok (F (max p q)) := by
  unfold m_later_of
  rw [mless hp hq]
  show (if decide (p < q) = true then _ else _) = _
  by_cases c : p < q
  · rw [if_pos (decide_eq_true c), show max p q = q by grind]
  · rw [if_neg (by simpa using c), show max p q = p by grind]
theorem sooner_m {p q : Rat} (hp : Sz p) (hq : Sz q) : m_sooner_of (F p) (F q) = .ok (F (min p q)) := by
  unfold m_sooner_of
  rw [mless hq hp]
  show (if decide (q < p) = true then _ else _) = _
  by_cases c : q < p
  · rw [if_pos (decide_eq_true c), show min p q = q by grind]
  · rw [if_neg (by simpa using c), show min p q = p by grind]
theorem sure_m {q : Rat} (h : 0 ≤ q) : m_sure_moment (enc (F q)) = .ok () := by
  unfold m_sure_moment
  rw [ismomF h]
  rfl
theorem Dv.max {D N : Nat} {p q : Rat} (hp : Dv D N p) (hq : Dv D N q) : Dv D N (max p q) := by
  by_cases c : p < q
  · rw [show Max.max p q = q by grind]; exact hq
  · rw [show Max.max p q = p by grind]; exact hp
theorem Dv.min {D N : Nat} {p q : Rat} (hp : Dv D N p) (hq : Dv D N q) : Dv D N (min p q) := by
  by_cases c : p < q
  · rw [show Min.min p q = p by grind]; exact hp
  · rw [show Min.min p q = q by grind]; exact hq
theorem pieces_len : ∀ (l : List Er) (b lo hi : Rat), (piecesR l b lo hi).length ≤ l.length + 1
  | [], b, lo, hi => by
    show (if Max.max b lo < hi then [_] else ([] : List Er)).length ≤ 1
    split
    · exact Nat.le_refl _
    · exact Nat.zero_le _
  | e :: l, b, lo, hi => by
    have := pieces_len l (b + e.s) lo hi
    show ((if Max.max b lo < Min.min (b + e.s) hi then [_] else ([] : List Er)) ++ piecesR l (b + e.s) lo hi).length ≤ l.length + 1 + 1
    rw [List.length_append]
    split
    · show 1 + _ ≤ _; omega
    · show 0 + _ ≤ _; omega
theorem pieces_m {D N M : Nat} {l : List Er} {lo hi : Rat} (hl : l.length ≤ 100000) (b : Big (D * D) (M + N * (l.length + 1) + N * N)) (h : ∀ e ∈ l, Ge D N e) (hlo : Dv D M lo) (hhi : Dv D M hi) (h0 : 0 ≤ lo) :
    m_pieces_within (l.map G) (F lo) (F hi) = .ok ((piecesR l 0 lo hi).map G) ∧ ∀ e ∈ piecesR l 0 lo hi, Ge (D * D) (M + N + N * N) e := by
  suffices q : Ok (m_pieces_within (l.map G) (F lo) (F hi)) fun r => r = (piecesR l 0 lo hi).map G ∧ ∀ e ∈ piecesR l 0 lo hi, Ge (D * D) (M + N + N * N) e by
    obtain ⟨r, e, rfl, h⟩ := q
    exact ⟨e, h⟩
  have hNl : N ≤ N * (l.length + 1) := Nat.le_mul_of_pos_right _ (Nat.succ_pos _)
  have bD : Big D (M + N * (l.length + 1)) := b.sub (by omega)
  have bN : Big D N := bD.less (by omega)
  have DDd : D ∣ D * D := Nat.dvd_mul_right ..
  unfold m_pieces_within
  refine Ok.bind (Ok.forM (fun xs (s : Fr × List Ed) => ∃ (bg : Rat) (i : Nat) (P : List Er), s = (F bg, P.map G) ∧ 0 ≤ bg ∧ Dv D (N * i) bg ∧ i + xs.length ≤ l.length ∧ P.length ≤ i ∧ (∀ e ∈ xs, Ge D N e) ∧ (∀ e ∈ P, Ge (D * D) (M + N + N * N) e) ∧ P ++ piecesR xs bg lo hi = piecesR l 0 lo hi) ?_ (l := l) ⟨0, 0, [], rfl, Rat.le_refl, Dv.int (a := 0) (Nat.zero_le _), by omega, Nat.le_refl _, h, (fun _ m => nomatch m), rfl⟩) ?_
  · rintro e xs s ⟨bg, i, P, rfl, b0, db, hi', hP, gx, gP, eq⟩
    have he := gx e List.mem_cons_self
    have hi2 : i + (xs.length + 1) ≤ l.length := hi'
    have es := he.g.s
    have ni : N * i ≤ N * (l.length + 1) := Nat.mul_le_mul_left _ (by omega)
    have ni1 : N * i + N ≤ N * (l.length + 1) := by rw [← Nat.mul_succ]; exact Nat.mul_le_mul_left _ (by omega)
    have db' : Dv D (M + N * (l.length + 1)) bg := db.up (by omega)
    have dlo : Dv D (M + N * (l.length + 1)) lo := hlo.up (by omega)
    have dhi : Dv D (M + N * (l.length + 1)) hi := hhi.up (by omega)
    have dend : Dv D (M + N * (l.length + 1)) (bg + e.s) := (db.add he.s).up (by omega)
    have dfi := db'.max dlo
    have dla := dend.min dhi
    refine Ok.bindE (mplus (bD.sz db') (bN.sz he.s)) (Ok.bindE (noErr_ok (later_m (bD.sz db') (bD.sz dlo))) (Ok.bindE (noErr_ok (sooner_m (bD.sz dend) (bD.sz dhi))) ?_))
    refine Ok.bind (φ := fun r => ∃ P', r = P'.map G ∧ P'.length ≤ i + 1 ∧ (∀ e ∈ P', Ge (D * D) (M + N + N * N) e) ∧ P' ++ piecesR xs (bg + e.s) lo hi = piecesR l 0 lo hi) (Ok.bindE (noErr_ok (mless (bD.sz dfi) (bD.sz dla))) (Ok.ite (fun c => ?_) fun c => ?_)) ?_
    · have c' := of_decide_eq_true c
      have dlen : Dv D M (Min.min (bg + e.s) hi - Max.max bg lo) := by
        refine hhi.mid (dla.sub dfi) (by grind) (by grind)
      have dlat : Dv D N (Max.max bg lo - bg) := he.s.mid (dfi.sub db') (by grind) (by grind)
      refine Ok.bindE (mminus (bD.sz dla) (bD.sz dfi)) (Ok.bindE (mminus (bD.sz dfi) (bD.sz db')) (Ok.bindE (ledby_m bN he dlat) (Ok.guard (by rw [List.length_map]; omega) (Ok.pure ⟨P ++ [⟨Min.min (bg + e.s) hi - Max.max bg lo, byR e (Max.max bg lo - bg), e.r⟩], ?_, ?_, ?_, ?_⟩))))
      · rw [List.map_append]; rfl
      · rw [List.length_append]; show _ + 1 ≤ _; omega
      · intro y m
        rcases List.mem_append.mp m with m | m
        · exact gP y m
        · rw [List.mem_singleton.mp m]
          refine ⟨⟨by show 0 < Min.min (bg + e.s) hi - Max.max bg lo; grind, he.g.r, fun x hx => ?_, fun hx => ?_⟩, dlen.to DDd (by omega), he.r.to DDd (by omega), fun x hx => ?_⟩
          · have hx' : byR e (Max.max bg lo - bg) = some x := hx
            cases eb : e.b with
            | none => rw [byR_none eb] at hx'; exact nomatch hx'
            | some y =>
              rw [byR_some eb] at hx'
              cases hx'
              have := he.g.b y eb
              have := Rat.mul_nonneg he.g.r (show 0 ≤ Max.max bg lo - bg by grind)
              grind
          · have hx' : byR e (Max.max bg lo - bg) = none := hx
            cases eb : e.b with
            | none => exact he.g.n eb
            | some y => rw [byR_some eb] at hx'; exact nomatch hx'
          · have hx' : byR e (Max.max bg lo - bg) = some x := hx
            cases eb : e.b with
            | none => rw [byR_none eb] at hx'; exact nomatch hx'
            | some y =>
              rw [byR_some eb] at hx'
              cases hx'
              exact (((he.b y eb).den DDd).add (he.r.mul dlat)).up (by omega)
      · rw [← eq, List.append_assoc]
        congr 1
        show _ = (if Max.max bg lo < Min.min (bg + e.s) hi then [_] else []) ++ piecesR xs (bg + e.s) lo hi
        rw [if_pos c']
    · have c' : ¬ Max.max bg lo < Min.min (bg + e.s) hi := of_decide_eq_false c
      refine Ok.pure ⟨P, rfl, by omega, gP, ?_⟩
      rw [← eq]
      congr 1
      show _ = (if Max.max bg lo < Min.min (bg + e.s) hi then [_] else []) ++ piecesR xs (bg + e.s) lo hi
      rw [if_neg c']
      rfl
    · rintro _ ⟨P', rfl, hP', gP', eq'⟩
      exact Ok.pure ⟨_, rfl, bg + e.s, i + 1, P', rfl, by grind, by rw [Nat.mul_succ]; exact db.add he.s, by omega, hP', fun y m => gx y (List.mem_cons_of_mem _ m), gP', eq'⟩
  · rintro _ ⟨s, rfl, bg, i, P, rfl, b0, db, hi', hP, _, gP, eq⟩
    have hi2 : i + 0 ≤ l.length := hi'
    have ni : N * i ≤ N * (l.length + 1) := Nat.mul_le_mul_left _ (by omega)
    have db' : Dv D (M + N * (l.length + 1)) bg := db.up (by omega)
    have dlo : Dv D (M + N * (l.length + 1)) lo := hlo.up (by omega)
    have dhi : Dv D (M + N * (l.length + 1)) hi := hhi.up (by omega)
    have dfi := db'.max dlo
    have eq' : P ++ (if Max.max bg lo < hi then [⟨hi - Max.max bg lo, none, 0⟩] else []) = piecesR l 0 lo hi := eq
    refine Ok.bindE (noErr_ok (later_m (bD.sz db') (bD.sz dlo))) ?_
    refine Ok.bind (φ := fun r => r = (piecesR l 0 lo hi).map G ∧ ∀ e ∈ piecesR l 0 lo hi, Ge (D * D) (M + N + N * N) e) (Ok.bindE (noErr_ok (mless (bD.sz dfi) (bD.sz dhi))) (Ok.ite (fun c => ?_) fun c => ?_)) ?_
    · have c' := of_decide_eq_true c
      have dlen : Dv D M (hi - Max.max bg lo) := hhi.mid (dhi.sub dfi) (by grind) (by grind)
      rw [if_pos c'] at eq'
      rw [← eq']
      refine Ok.bindE (mminus (bD.sz dhi) (bD.sz dfi)) (Ok.guard (by rw [List.length_map]; omega) (Ok.pure ⟨by rw [List.map_append]; rfl, fun y m => ?_⟩))
      rcases List.mem_append.mp m with m | m
      · exact gP y m
      · rw [List.mem_singleton.mp m]
        exact ⟨⟨by show 0 < hi - Max.max bg lo; grind, Rat.le_refl, (fun _ q => nomatch q), fun _ => rfl⟩, dlen.to DDd (by omega), Dv.int (a := 0) (Nat.zero_le _), fun _ q => nomatch q⟩
    · have c' : ¬ Max.max bg lo < hi := of_decide_eq_false c
      rw [if_neg c', List.append_nil] at eq'
      rw [← eq']
      exact Ok.pure ⟨rfl, gP⟩
    · rintro _ ⟨rfl, g⟩
      exact Ok.pure ⟨rfl, g⟩
end A

set_option Elab.async false
set_option linter.all false
set_option maxRecDepth 100000
set_option maxHeartbeats 2000000
namespace A
open PySem PySem.Spec PyProof.Rows L2 Y
open Y.Enc (enc)
/-! # sums, moments -/
theorem Mo.add {D N M : Nat} {p q : Rat} (hp : Mo D N (F p)) (hq : Mo D M (F q)) : Mo D (N + M) (F (p + q)) := by
  obtain ⟨p', e, h0, h⟩ := hp
  obtain ⟨q', e', h0', h'⟩ := hq
  have e := F_inj e
  have e' := F_inj e'
  subst e e'
  exact ⟨_, rfl, Rat.add_nonneg h0 h0', h.add h'⟩
theorem Mo.dv {D N : Nat} {p : Rat} (hp : Mo D N (F p)) : Dv D N p := by
  obtain ⟨p', e, h0, h⟩ := hp
  rw [F_inj e]
  exact h
theorem Mo.nn {D N : Nat} {p : Rat} (hp : Mo D N (F p)) : 0 ≤ p := by
  obtain ⟨p', e, h0, h⟩ := hp
  rw [F_inj e]
  exact h0
theorem Mo.mk {D N : Nat} {p : Rat} (h : 0 ≤ p) (hd : Dv D N p) : Mo D N (F p) := ⟨p, rfl, h, hd⟩
theorem Mo.dig {D N : Nat} {x y z : Int} (a : 0 ≤ x) (b : x ≤ z) (c : 0 < y) (hd : y.toNat ∣ D) (hz : z.toNat ≤ N) : Mo D N (F (Rat.divInt x y)) := by
  refine Mo.div a c hd ?_
  have : 0 < y.toNat := by omega
  exact Nat.le_trans (by omega) (Nat.le_mul_of_pos_right _ this)
theorem half_F : (⟨1, 2⟩ : Fr) = F (Rat.divInt 1 2) := (low_eq (f := ⟨1, 2⟩) (a := 1) (b := 2) ⟨by decide, by decide⟩ (by decide) (by decide)).symm.trans (lowT_F (by decide))
theorem divInt_half : Rat.divInt 1 2 = 1 / 2 := by rw [Rat.divInt_eq_div]; rfl
theorem half_dv : Dv 2 1 (Rat.divInt 1 2) := Dv.of (by decide) (by decide) (by decide)
theorem good_pos {l : List Er} {D N : Nat} (h : ∀ e ∈ l, Ge D N e) : ∀ e ∈ l, 0 < e.s := fun e m => (h e m).g.s
theorem sum_dv {D N : Nat} : ∀ {l : List Er}, (∀ e ∈ l, Dv D N e.s) → Dv D (N * l.length) (sumR l)
  | [], _ => Dv.int (a := 0) (Nat.zero_le _)
  | e :: l, h => by
    have := (h e List.mem_cons_self).add (sum_dv fun y m => h y (List.mem_cons_of_mem e m))
    show Dv D (N * (l.length + 1)) (e.s + sumR l)
    rw [Nat.mul_succ, Nat.add_comm]
    exact this
theorem cell_ok {ns : List Int} {i : Int} (h0 : 0 ≤ i) : Ok (l_cell_at ns i) fun _ => True := by
  unfold l_cell_at
  exact Ok.ite (fun c => Ok.ix h0 (of_decide_eq_true c) fun x _ _ => Ok.pure trivial) fun _ => Ok.pure trivial
theorem sum_rev : ∀ (l : List Er), sumR l.reverse = sumR l
  | [] => rfl
  | e :: l => by
    rw [List.reverse_cons, sumR_app, sum_rev l]
    show sumR l + (e.s + 0) = e.s + sumR l
    grind
theorem sum_push (st : List Er) (e : Er) : sumR (pushR st e) = sumR st + e.s := by
  unfold pushR
  cases st with
  | nil => show e.s + 0 = 0 + e.s; grind
  | cons a r =>
    simp only
    split
    · show a.s + e.s + sumR r = a.s + sumR r + e.s; grind
    · show e.s + (a.s + sumR r) = a.s + sumR r + e.s; grind
theorem sum_fold : ∀ (l st : List Er), sumR (l.foldl pushR st) = sumR st + sumR l
  | [], st => by show sumR st = sumR st + 0; grind
  | e :: l, st => by
    rw [List.foldl_cons, sum_fold l, sum_push]
    show sumR st + e.s + sumR l = sumR st + (e.s + sumR l)
    grind
theorem sum_tidy {l : List Er} (g : ∀ e ∈ l, GoodE e) : sumR (tidyR l) ≤ sumR l := by
  unfold tidyR
  rw [sum_rev]
  have h := sum_fold l []
  have hg := fold_good l [] (fun _ m => nomatch m) g
  rw [show sumR ([] : List Er) + sumR l = sumR l by show 0 + sumR l = sumR l; grind] at h
  rw [← h]
  generalize l.foldl pushR [] = st at *
  cases st with
  | nil => exact Rat.le_refl
  | cons a r =>
    rw [noLast_cons]
    split
    · have := (hg a List.mem_cons_self).s
      show sumR r ≤ a.s + sumR r
      grind
    · exact Rat.le_refl
end A

set_option Elab.async false
set_option linter.all false
set_option maxRecDepth 100000
set_option maxHeartbeats 2000000
namespace A
open PySem PySem.Spec PyProof.Rows L2 Y
open Y.Enc (enc)
/-! # over -/
/-- a good edit, of a size: spans by S, rates by R, starts by B, one over the rate by I -/
structure Gs (S R B I N : Nat) (e : Er) : Prop where
  g : GoodE e
  s : Dv S N e.s
  r : Dv R N e.r
  b : ∀ x, e.b = some x → Dv B N x
  p : Dv B N (e.r * e.s)
  i : e.r ≠ 0 → Dv I N (1 / e.r)
theorem Gs.ge {S R B I N D M : Nat} {e : Er} (h : Gs S R B I N e) (hs : S ∣ D) (hr : R ∣ D) (hb : B ∣ D) (hn : N ≤ M) : Ge D M e := ⟨h.g, h.s.to hs hn, h.r.to hr hn, fun x q => (h.b x q).to hb hn⟩
theorem Gs.to {S R B I N S' R' B' I' M : Nat} {e : Er} (h : Gs S R B I N e) (hs : S ∣ S') (hr : R ∣ R') (hb : B ∣ B') (hi : I ∣ I') (hn : N ≤ M) : Gs S' R' B' I' M e := ⟨h.g, h.s.to hs hn, h.r.to hr hn, fun x q => (h.b x q).to hb hn, h.p.to hb hn, fun q => (h.i q).to hi hn⟩
theorem Gs.up {S R B I N M : Nat} {e : Er} (h : Gs S R B I N e) (hn : N ≤ M) : Gs S R B I M e := h.to (Nat.dvd_refl _) (Nat.dvd_refl _) (Nat.dvd_refl _) (Nat.dvd_refl _) hn
theorem dv0 {D N : Nat} : Dv D N 0 := Dv.int (a := 0) (Nat.zero_le _)
theorem mshared {p q : Rat} (hp : Sz p) (hq : Sz q) (h : 0 < q) : m_shared (F p) (F q) = .ok (F (p / q)) := by
  have hn : q.num ≠ 0 := fun z => by rw [Rat.num_eq_zero.mp z] at h; exact absurd h (by decide)
  have hn0 := Rat.num_nonneg.mpr (show 0 ≤ q by grind)
  unfold m_shared guardR
  rw [if_neg (show ¬ (decide ((F q).a = 0) = true) from fun z => hn (of_decide_eq_true z)), if_pos (cw hp.a hq.b), if_pos (cw hp.b hq.a), frac_eq (Int.mul_pos (F_low p).1 (show 0 < (F q).a by show 0 < q.num; omega)) (m2 hp.b hq.a)]
  exact congrArg Res.ok (lowT_div p q (by grind))
theorem mapped_loop {D N : Nat} (b : Big D N) : ∀ (l : List Er) (t : Rat), 0 ≤ t → Dv D N t → (∀ e ∈ l, Ge D N e) → (forR (l.map G) (F t) (fun x27 (a26 : Fr) => ((m_less a26 x27.a).noErr).bind fun x42 => (if x42 = true then (m_led_by x27 a26).bind fun x48 => .ok (.rt x48) else (m_minus a26 x27.a).bind fun x61 => (.ok (.nx x61) : Res (Fl Fr (Option Fr)))))).bind (afterR fun _ => .ok none) = .ok ((ledR l t).map F)
  | [], t, _, _, _ => rfl
  | e :: l, t, h0, ht, h => by
    have ge := h e List.mem_cons_self
    have st := b.sz ht
    show Res.bind (Res.bind (((m_less (F t) (F e.s)).noErr).bind _) _) _ = _
    rw [mless st (b.sz ge.s)]
    by_cases c : t < e.s
    · rw [decide_eq_true c, led_cons_lt c]
      show Res.bind (Res.bind ((m_led_by (G e) (F t)).bind _) _) _ = _
      rw [ledby_m b ge ht]
      rfl
    · rw [decide_eq_false c, led_cons_ge (by grind)]
      show Res.bind (Res.bind ((m_minus (F t) (F e.s)).bind _) _) _ = _
      rw [mminus st (b.sz ge.s)]
      exact mapped_loop b l (t - e.s) (by grind) (ht.mid (ht.sub ge.s) (by grind) (by have := ge.g.s; grind)) fun y m => h y (List.mem_cons_of_mem _ m)
theorem mapped_m {D N : Nat} {l : List Er} {t : Rat} (hl : l.length ≤ 1000000) (b : Big D N) (h0 : 0 ≤ t) (ht : Dv D N t) (h : ∀ e ∈ l, Ge D N e) : m_mapped (l.map G) (F t) = .ok ((ledR l t).map F) := by
  unfold m_mapped
  rw [sure_e hl fun e m => ⟨(h e m).g, b.sz (h e m).s⟩]
  show (m_sure_moment (enc (F t))).bind _ = _
  rw [sure_m h0]
  exact mapped_loop b l t h0 ht h
theorem mid' {D E N M : Nat} {p q : Rat} (h : Dv D N p) (h' : Dv E M q) (h0 : 0 ≤ q) (h1 : q ≤ p) (hd : D ∣ E) : Dv E N q := (h.den hd).mid h' h0 h1
theorem led_dv {S R B I N : Nat} : ∀ {l : List Er} {C : Nat} {t v : Rat}, (∀ e ∈ l, Gs S R B I N e) → Dv (S * C) N t → 0 ≤ t → ledR l t = some v → Dv (B * R * (S * C)) (N + N * N) v
  | [], _, _, _, _, _, _, q => nomatch q
  | e :: l, C, t, v, g, ht, h0, q => by
    have ge := g e List.mem_cons_self
    by_cases c : t < e.s
    · rw [led_cons_lt c] at q
      cases eb : e.b with
      | none => rw [byR_none eb] at q; exact nomatch q
      | some x =>
        rw [byR_some eb] at q
        cases q
        have h1 : Dv (S * C) N t := ht
        have h2 := ge.r.mul h1
        exact ((ge.b x eb).den (Nat.mul_assoc B R _ ▸ Nat.dvd_mul_right ..)).add (h2.den (by rw [Nat.mul_assoc]; exact Nat.dvd_mul_left ..))
    · rw [led_cons_ge (by grind)] at q
      have es := ge.g.s
      have h2 : Dv (S * C) N (t - e.s) := ht.mid (ht.sub (ge.s.den (Nat.dvd_mul_right ..))) (by grind) (by grind)
      exact led_dv (fun y m => g y (List.mem_cons_of_mem _ m)) h2 (by grind) q
/-- what the pieces are like -/
structure Pc (S R B I C N M : Nat) (y : Er) : Prop where
  g : GoodE y
  s : Dv (S * C) M y.s
  r : Dv R N y.r
  b : ∀ x, y.b = some x → Dv (B * R * (S * C)) (N + N * N) x
  i : y.r ≠ 0 → Dv I N (1 / y.r)
theorem pieces_pc {S R B I C N M K : Nat} {lo hi : Rat} (hlo : Dv C K lo) (hhi : Dv C M hi) (h0 : 0 ≤ lo) : ∀ {l : List Er} {b : Rat}, (∀ e ∈ l, Gs S R B I N e) → (∃ L, Dv S L b) → 0 ≤ b → ∀ y ∈ piecesR l b lo hi, Pc S R B I C N M y
  | [], b, _, hb, b0, y, m => by
    obtain ⟨L, hb⟩ := hb
    have m' : y ∈ (if Max.max b lo < hi then [⟨hi - Max.max b lo, none, 0⟩] else ([] : List Er)) := m
    by_cases c : Max.max b lo < hi
    · rw [if_pos c] at m'
      rw [List.mem_singleton.mp m']
      have d1 : Dv (S * C) (L + K) (Max.max b lo) := Dv.max (hb.to (Nat.dvd_mul_right ..) (by omega)) (hlo.to (Nat.dvd_mul_left ..) (by omega))
      have d2 : Dv (S * C) M hi := hhi.den (Nat.dvd_mul_left ..)
      exact ⟨⟨(by show 0 < hi - Max.max b lo; grind), Rat.le_refl, (fun _ q => nomatch q), fun _ => rfl⟩, d2.mid (d2.sub d1) (by grind) (by grind), dv0, (fun _ q => nomatch q), fun q => absurd rfl q⟩
    · rw [if_neg c] at m'; exact nomatch m'
  | a :: l, b, g, hb, b0, y, m => by
    have ga := g a List.mem_cons_self
    have as := ga.g.s
    have m' : y ∈ (if Max.max b lo < Min.min (b + a.s) hi then [⟨Min.min (b + a.s) hi - Max.max b lo, byR a (Max.max b lo - b), a.r⟩] else []) ++ piecesR l (b + a.s) lo hi := m
    rcases List.mem_append.mp m' with m | m
    · by_cases c : Max.max b lo < Min.min (b + a.s) hi
      · rw [if_pos c] at m
        have gy := pieces_good (l := [a]) (b := b) (lo := lo) (hi := hi) (fun e q => by rw [List.mem_singleton.mp q]; exact ga.g) y (by
          show y ∈ (if Max.max b lo < Min.min (b + a.s) hi then [⟨Min.min (b + a.s) hi - Max.max b lo, byR a (Max.max b lo - b), a.r⟩] else []) ++ piecesR [] (b + a.s) lo hi
          rw [if_pos c]
          exact List.mem_append_left _ m)
        rw [List.mem_singleton.mp m] at gy ⊢
        obtain ⟨L, hb⟩ := hb
        have e1 : Dv (S * C) (L + N + K + M) b := hb.to (Nat.dvd_mul_right ..) (by omega)
        have e2 : Dv (S * C) (L + N + K + M) (b + a.s) := ((hb.add ga.s).to (Nat.dvd_mul_right ..) (by omega))
        have e3 : Dv (S * C) (L + N + K + M) lo := hlo.to (Nat.dvd_mul_left ..) (by omega)
        have e4 : Dv (S * C) (L + N + K + M) hi := hhi.to (Nat.dvd_mul_left ..) (by omega)
        have d2 : Dv (S * C) M hi := hhi.den (Nat.dvd_mul_left ..)
        have d3 : Dv (S * C) N (Max.max b lo - b) := (ga.s.den (Nat.dvd_mul_right ..)).mid ((e1.max e3).sub e1) (by grind) (by grind)
        refine ⟨gy, d2.mid ((e2.min e4).sub (e1.max e3)) (by grind) (by grind), ga.r, fun x hx => ?_, ga.i⟩
        have hx' : byR a (Max.max b lo - b) = some x := hx
        cases ab : a.b with
        | none => rw [byR_none ab] at hx'; exact nomatch hx'
        | some z =>
          rw [byR_some ab] at hx'
          cases hx'
          exact ((ga.b z ab).den (Nat.mul_assoc B R _ ▸ Nat.dvd_mul_right ..)).add ((ga.r.mul d3).den (by rw [Nat.mul_assoc]; exact Nat.dvd_mul_left ..))
      · rw [if_neg c] at m; exact nomatch m
    · exact pieces_pc hlo hhi h0 (fun y m => g y (List.mem_cons_of_mem _ m)) (let ⟨L, h⟩ := hb; ⟨L + N, h.add ga.s⟩) (by grind) y m
section
variable {So Ro Bo Io Si Ri Bi Ii N : Nat}
theorem div_one_div {p q : Rat} (h : q ≠ 0) : p / q = p * (1 / q) := by rw [Rat.div_def, Rat.div_def, Rat.one_mul]
theorem through_gs {inner : List Er} {e : Er} (hN : 1 ≤ N) (gi : ∀ y ∈ inner, Gs Si Ri Bi Ii N y) (ge : Gs So Ro Bo Io N e) : ∀ y ∈ throughR inner e, Gs (So * (Si * Bo * Io)) (Ro * Ri) (Bi * Ri * (Si * Bo)) (Io * Ii) ((N + N) * (N + N)) y := by
  intro y m
  have gg := through_good (fun y m => (gi y m).g) ge.g y m
  have n1 : N ≤ N * N := Nat.le_mul_of_pos_right _ (by omega)
  have n4 : (N + N) * (N + N) = N * N + N * N + (N * N + N * N) := by grind
  have n2 : N ≤ (N + N) * (N + N) := by omega
  have n3 : N + N * N ≤ (N + N) * (N + N) := by omega
  cases hb : e.b with
  | none =>
    rw [through_none hb] at m
    rw [List.mem_singleton.mp m]
    have r0 := ge.g.n hb
    refine ⟨ge.g, ge.s.to (Nat.dvd_mul_right ..) n2, by rw [r0]; exact dv0, fun x q => ?_, by rw [r0, Rat.zero_mul]; exact dv0, fun q => absurd r0 q⟩
    rw [hb] at q; exact nomatch q
  | some x =>
    have dx := ge.b x hb
    have x0 := ge.g.b x hb
    by_cases hr : e.r = 0
    · rw [through_dwell hb hr] at m
      rw [List.mem_singleton.mp m] at gg ⊢
      refine ⟨gg, ge.s.to (Nat.dvd_mul_right ..) n2, dv0, fun v q => ?_, by show Dv _ _ (0 * e.s); rw [Rat.zero_mul]; exact dv0, fun q => absurd rfl q⟩
      exact (led_dv gi (dx.den (Nat.dvd_mul_left Bo Si)) x0 q).up n3
    · rw [through_run hb hr] at m
      obtain ⟨z, mz, rfl⟩ := List.mem_map.mp m
      have pz := pieces_pc (M := N + N) dx (dx.add ge.p) x0 gi ⟨0, dv0⟩ Rat.le_refl z mz
      have hi := ge.i hr
      have es : (paceR e.r z).s = z.s * (1 / e.r) := div_one_div hr
      have ds : Dv (Si * Bo * Io) ((N + N) * N) (z.s * (1 / e.r)) := pz.s.mul hi
      refine ⟨gg, by rw [es]; exact ds.to (Nat.dvd_mul_left ..) (Nat.mul_le_mul_left _ (by omega)), (ge.r.mul pz.r).up (Nat.mul_le_mul (by omega) (by omega)), fun v q => (pz.b v q).up n3, ?_, fun q => ?_⟩
      · have e1 : (paceR e.r z).r * (paceR e.r z).s = z.r * z.s := by
          show e.r * z.r * (z.s / e.r) = z.r * z.s
          have : z.s / e.r * e.r = z.s := Rat.div_mul_cancel hr
          grind
        rw [e1]
        exact (pz.r.mul pz.s).to (by rw [Nat.mul_assoc]; exact Nat.dvd_mul_left ..) (Nat.mul_le_mul (by omega) (by omega))
      · have q' : e.r * z.r ≠ 0 := q
        have hz : z.r ≠ 0 := fun w => q' (by rw [w, Rat.mul_zero])
        have e1 : 1 / (e.r * z.r) = (1 / e.r) * (1 / z.r) := by
          rw [Rat.div_def, Rat.div_def, Rat.div_def, Rat.inv_mul_rev]
          grind
        show Dv _ _ (1 / (e.r * z.r))
        rw [e1]
        exact (hi.mul (pz.i hz)).up (Nat.mul_le_mul (by omega) (by omega))
theorem through_len (inner : List Er) (e : Er) : (throughR inner e).length ≤ inner.length + 1 := by
  cases hb : e.b with
  | none => rw [through_none hb]; show 1 ≤ _; omega
  | some x =>
    by_cases hr : e.r = 0
    · rw [through_dwell hb hr]; show 1 ≤ _; omega
    · rw [through_run hb hr, List.length_map]; exact pieces_len ..
theorem flat_len (inner : List Er) : ∀ (outer : List Er), (outer.flatMap (throughR inner)).length ≤ outer.length * (inner.length + 1)
  | [] => Nat.zero_le _
  | e :: l => by
    have := through_len inner e
    have := flat_len inner l
    rw [List.flatMap_cons, List.length_append, show (e :: l).length = l.length + 1 from rfl, Nat.succ_mul]
    omega
theorem over_len (outer inner : List Er) : (overR outer inner).length ≤ outer.length * (inner.length + 1) := Nat.le_trans (tidy_len _) (flat_len ..)
end
theorem push_gs {S R B I N M : Nat} {st : List Er} {e : Er} (h : ∀ x ∈ st, Gs S R B I N x) (he : Gs S R B I M e) : ∀ x ∈ pushR st e, Gs S R B I (N + M) x := by
  intro x m
  unfold pushR at m
  cases st with
  | nil => rw [List.mem_singleton.mp m]; exact he.up (by omega)
  | cons a r =>
    simp only at m
    by_cases c : onB a e = true
    · rw [if_pos c] at m
      rcases List.mem_cons.mp m with rfl | m
      · have ha := h a List.mem_cons_self
        have er : a.r = e.r := by
          unfold onB at c
          have h1 := ha.g.n
          have h2 := he.g.n
          revert c h1 h2
          cases a.b <;> cases e.b <;> intro c h1 h2
          · rw [h1 rfl, h2 rfl]
          · exact nomatch c
          · exact nomatch c
          · simp only [Bool.and_eq_true, decide_eq_true_eq] at c
            exact c.1
        have gm := push_good (st := [a]) (e := e) (fun x q => by rw [List.mem_singleton.mp q]; exact ha.g) he.g (mergeR a e) (by unfold pushR; simp only; rw [if_pos c]; exact List.mem_cons_self)
        refine ⟨gm, ha.s.add he.s, ha.r.up (by omega), fun x q => (ha.b x q).up (by omega), ?_, fun q => (ha.i q).up (by omega)⟩
        show Dv B (N + M) (a.r * (a.s + e.s))
        rw [Rat.mul_add]
        exact ha.p.add (er ▸ he.p)
      · exact (h x (List.mem_cons_of_mem _ m)).up (by omega)
    · rw [if_neg c] at m
      rcases List.mem_cons.mp m with rfl | m
      · exact he.up (by omega)
      · exact (h x m).up (by omega)
theorem fold_gs {S R B I N : Nat} : ∀ (l st : List Er) (k : Nat), (∀ x ∈ st, Gs S R B I (N * k) x) → (∀ x ∈ l, Gs S R B I N x) → ∀ x ∈ l.foldl pushR st, Gs S R B I (N * (k + l.length)) x
  | [], _, _, h, _ => h
  | e :: l, st, k, h, hl => by
    have := fold_gs l (pushR st e) (k + 1) (fun x m => by rw [Nat.mul_succ]; exact push_gs h (hl e List.mem_cons_self) x m) fun y m => hl y (List.mem_cons_of_mem _ m)
    rw [show k + (e :: l).length = k + 1 + l.length by show k + (l.length + 1) = _; omega]
    exact this
theorem tidy_gs {S R B I N : Nat} {l : List Er} (h : ∀ x ∈ l, Gs S R B I N x) : ∀ x ∈ tidyR l, Gs S R B I (N * (l.length + 1)) x := fun x m =>
  (fold_gs l [] 0 (fun _ m => nomatch m) h x (noLast_mem (List.mem_reverse.mp m))).up (Nat.mul_le_mul_left _ (by omega))
theorem fold_app {l m : List Er} {f : Er → List Er} : True := trivial
/-- what comes of over, of a size -/
def ON (N k : Nat) : Nat := (N + N) * (N + N) * (k + 1)
theorem over_m {So Ro Bo Io Si Ri Bi Ii N : Nat} {outer inner : List Er} (hN : 1 ≤ N) (hk : outer.length * (inner.length + 1) ≤ 80000) (ho : outer.length ≤ 80000) (hi : inner.length ≤ 80000)
    (b1 : Big (So * (Si * Bo * Io) * (Ro * Ri) * (Bi * Ri * (Si * Bo))) (ON N (outer.length * (inner.length + 1))))
    (b2 : Big (Si * Ri * Bi * Bo * (Si * Ri * Bi * Bo)) (ON N (outer.length * (inner.length + 1)) + (N + N + N * (inner.length + 1) + N * N)))
    (b3 : Big (So * Ro * Bo) N)
    (gi : ∀ y ∈ inner, Gs Si Ri Bi Ii N y) (go : ∀ y ∈ outer, Gs So Ro Bo Io N y) :
    m_over (outer.map G) (inner.map G) = .ok ((overR outer inner).map G) ∧ ∀ e ∈ overR outer inner, Gs (So * (Si * Bo * Io)) (Ro * Ri) (Bi * Ri * (Si * Bo)) (Io * Ii) (ON N (outer.length * (inner.length + 1))) e := by
  have gf : ∀ y ∈ outer.flatMap (throughR inner), Gs (So * (Si * Bo * Io)) (Ro * Ri) (Bi * Ri * (Si * Bo)) (Io * Ii) ((N + N) * (N + N)) y := fun y m => by
    obtain ⟨e, me, m⟩ := List.mem_flatMap.mp m
    exact through_gs hN gi (go e me) y m
  have lf := flat_len inner outer
  refine ⟨?_, fun e m => ((tidy_gs gf) e m).up (Nat.mul_le_mul_left _ (by omega))⟩
  have n1 : N ≤ N * N := Nat.le_mul_of_pos_right _ (by omega)
  have bD : Big (Si * Ri * Bi * Bo) (N + N + N * (inner.length + 1)) := b2.sub (by omega)
  have n0 : N ≤ N * (inner.length + 1) := Nat.le_mul_of_pos_right _ (Nat.succ_pos _)
  have gei : ∀ y ∈ inner, Ge (Si * Ri * Bi * Bo) N y := fun y m => (gi y m).ge (by rw [Nat.mul_assoc, Nat.mul_assoc]; exact Nat.dvd_mul_right ..) (by rw [Nat.mul_assoc]; exact Nat.dvd_trans (Nat.dvd_mul_left ..) (Nat.dvd_mul_right ..)) (Nat.dvd_trans (Nat.dvd_mul_left ..) (Nat.dvd_mul_right ..)) (Nat.le_refl _)
  have geo : ∀ y ∈ outer, Ge (So * Ro * Bo) N y := fun y m => (go y m).ge (by rw [Nat.mul_assoc]; exact Nat.dvd_mul_right ..) (Nat.dvd_trans (Nat.dvd_mul_left ..) (Nat.dvd_mul_right ..)) (Nat.dvd_mul_left ..) (Nat.le_refl _)
  have dBo : Bo ∣ Si * Ri * Bi * Bo := Nat.dvd_mul_left ..
  have thr : ∀ e ∈ outer, m_led_through (G e) (inner.map G) = .ok ((throughR inner e).map G) := fun e me => by
    have ge := go e me
    have e0 : m_led_through (G e) (inner.map G) = (if (isNonD (enc (e.b.map F))) = true then .ok ([G e] : List Ed) else guardR (okEq (enc (F e.r)) (enc (⟨0, 1⟩ : Fr))) <| (if (eqD (enc (F e.r)) (enc (⟨0, 1⟩ : Fr))) = true then (someR (e.b.map F)).bind fun x18 => (m_mapped (inner.map G) x18).bind fun x21 => .ok ([(⟨F e.s, x21, (⟨0, 1⟩ : Fr)⟩ : Ed)] : List Ed) else (m_times (F e.r) (F e.s)).bind fun x46 => (someR (e.b.map F)).bind fun x53 => (m_plus x53 x46).bind fun x56 => (someR (e.b.map F)).bind fun x63 => (m_pieces_within (inner.map G) x63 x56).bind fun x66 => (forR (x66) (([] : List Ed) : List Ed) (fun x96 (a95 : List Ed) => (m_shared x96.a (F e.r)).bind fun x115 => (m_times (F e.r) x96.c).bind fun x122 => guardR (a95.length < 1000000) <| .ok (.nx (a95 ++ [(⟨x115, x96.b, x122⟩ : Ed)])))).bind (afterR fun a136 => .ok a136))) := rfl
    rw [e0]
    cases hb : e.b with
    | none => rw [through_none hb]; rfl
    | some x =>
      have dx := ge.b x hb
      have x0 := ge.g.b x hb
      rw [F0, eqF, if_neg (show ¬ (isNonD (enc ((some x).map F)) = true) from fun z => nomatch z)]
      unfold guardR
      rw [if_pos (okF _ _)]
      by_cases hr : e.r = 0
      · rw [if_pos (decide_eq_true hr), through_dwell hb hr]
        show (m_mapped (inner.map G) (F x)).bind _ = _
        rw [mapped_m (by omega) (bD.less (by omega)) x0 (dx.den dBo) gei]
        rfl
      · rw [if_neg (by simpa using hr), through_run hb hr, mtimes (b3.sz (geo e me).r) (b3.sz (geo e me).s)]
        show (m_plus (F x) (F (e.r * e.s))).bind _ = _
        have dp := dx.add ge.p
        rw [mplus (bD.sz (dx.to dBo (by omega))) (bD.sz (ge.p.to dBo (by omega)))]
        show (m_pieces_within (inner.map G) (F x) (F (x + e.r * e.s))).bind _ = _
        obtain ⟨ep, gp⟩ := pieces_m (D := Si * Ri * Bi * Bo) (N := N) (M := N + N) (l := inner) (lo := x) (hi := x + e.r * e.s) (by omega) (b2.less (by omega)) gei (dx.to dBo (by omega)) (dp.to dBo (by omega)) x0
        rw [ep]
        have hr' : 0 < e.r := by have := ge.g.r; grind
        suffices q : Ok ((forR ((piecesR inner 0 x (x + e.r * e.s)).map G) (([] : List Ed) : List Ed) (fun x96 (a95 : List Ed) => (m_shared x96.a (F e.r)).bind fun x115 => (m_times (F e.r) x96.c).bind fun x122 => guardR (a95.length < 1000000) <| (.ok (.nx (a95 ++ [(⟨x115, x96.b, x122⟩ : Ed)])) : Res (Fl (List Ed) (List Ed))))).bind (afterR fun a136 => .ok a136)) fun r => r = ((piecesR inner 0 x (x + e.r * e.s)).map (paceR e.r)).map G by
          obtain ⟨r, e', rfl⟩ := q
          exact e'
        have pl := pieces_len inner 0 x (x + e.r * e.s)
        have bp : Big (Si * Ri * Bi * Bo * (Si * Ri * Bi * Bo)) (N + N + N + N * N) := b2.less (by omega)
        generalize piecesR inner 0 x (x + e.r * e.s) = ps at *
        refine Ok.bind (Ok.forM (fun xs (s : List Ed) => ∃ P : List Er, s = P.map G ∧ P ++ xs.map (paceR e.r) = ps.map (paceR e.r) ∧ P.length + xs.length ≤ ps.length ∧ ∀ y ∈ xs, Ge (Si * Ri * Bi * Bo * (Si * Ri * Bi * Bo)) (N + N + N + N * N) y) ?_ (l := ps) ⟨[], rfl, rfl, by show 0 + _ ≤ _; omega, gp⟩) ?_
        · rintro z xs _ ⟨P, rfl, eP, hP, gx⟩
          have gz := gx z List.mem_cons_self
          have hP' : P.length + (xs.length + 1) ≤ ps.length := hP
          refine Ok.bindE (mshared (bp.sz gz.s) (b3.sz (geo e me).r) hr') (Ok.bindE (mtimes (b3.sz (geo e me).r) (bp.sz gz.r)) (Ok.guard (by rw [List.length_map]; omega) (Ok.pure ⟨_, rfl, P ++ [paceR e.r z], by rw [List.map_append]; rfl, by rw [List.append_assoc]; exact eP, by rw [List.length_append]; show P.length + 1 + _ ≤ _; omega, fun y m => gx y (List.mem_cons_of_mem _ m)⟩)))
        · rintro _ ⟨_, rfl, P, rfl, eP, _⟩
          rw [List.map_nil, List.append_nil] at eP
          exact Ok.pure (by rw [eP])
  suffices q : Ok (m_over (outer.map G) (inner.map G)) fun r => r = (overR outer inner).map G by
    obtain ⟨r, e', rfl⟩ := q
    exact e'
  unfold m_over
  refine Ok.bindE (sure_e (by omega) fun e m => ⟨(go e m).g, b3.sz (geo e m).s⟩) (Ok.bindE (sure_e (by omega) fun e m => ⟨(gi e m).g, bD.sz ((gei e m).s.up (by omega))⟩) ?_)
  refine Ok.bind (Ok.forM (fun xs (s : List Ed) => ∃ P : List Er, s = P.map G ∧ P ++ xs.flatMap (throughR inner) = outer.flatMap (throughR inner) ∧ P.length + xs.length * (inner.length + 1) ≤ outer.length * (inner.length + 1) ∧ ∀ y ∈ xs, y ∈ outer) ?_ (l := outer) ⟨[], rfl, rfl, by show 0 + _ ≤ _; omega, fun y m => m⟩) ?_
  · rintro e xs _ ⟨P, rfl, eP, hP, gx⟩
    have tl := through_len inner e
    have hP' : P.length + (xs.length + 1) * (inner.length + 1) ≤ outer.length * (inner.length + 1) := hP
    rw [Nat.succ_mul] at hP'
    refine Ok.bindE (thr e (gx e List.mem_cons_self)) (Ok.guard (by rw [List.length_map, List.length_map]; omega) (Ok.pure ⟨_, rfl, P ++ throughR inner e, by rw [List.map_append], by rw [List.append_assoc]; exact eP, by rw [List.length_append]; omega, fun y m => gx y (List.mem_cons_of_mem _ m)⟩))
  · rintro _ ⟨_, rfl, P, rfl, eP, _⟩
    rw [show P ++ ([] : List Er).flatMap (throughR inner) = P by simp] at eP
    subst eP
    have b1' := b1.less (show (N + N) * (N + N) * ((outer.flatMap (throughR inner)).length + 1) ≤ ON N (outer.length * (inner.length + 1)) from Nat.mul_le_mul_left _ (by omega))
    obtain ⟨et, _⟩ := tidy_m (l := outer.flatMap (throughR inner)) (by omega) b1' fun e m => (gf e m).ge (Nat.dvd_trans (Nat.dvd_mul_right ..) (Nat.dvd_mul_right ..)) (Nat.dvd_trans (Nat.dvd_mul_left ..) (Nat.dvd_mul_right ..)) (Nat.dvd_mul_left ..) (Nat.le_refl _)
    exact Ok.bindE et (Ok.pure rfl)
end A

set_option Elab.async false
set_option linter.all false
set_option maxRecDepth 100000
set_option maxHeartbeats 2000000
namespace A
open PySem PySem.Spec PyProof.Rows L2 Y
open Y.Enc (enc)
/-! # sizes of lists: bits of one bottom of the spans, the rates, the starts, of one top of the rates; of how great all are -/
def OKs (l : List Er) (s r b i n : Nat) : Prop := ∃ S R B I : Nat, (0 < S ∧ S < 2 ^ s) ∧ (0 < R ∧ R < 2 ^ r) ∧ (0 < B ∧ B < 2 ^ b) ∧ (0 < I ∧ I < 2 ^ i) ∧ ∀ e ∈ l, Gs S R B I (2 ^ n) e
/-- one bottom for all of a list -/
def OKd (l : List Er) (d n : Nat) : Prop := ∃ D : Nat, 0 < D ∧ D < 2 ^ d ∧ ∀ e ∈ l, Ge D (2 ^ n) e
section
variable {l m : List Er} {s r b i n so ro bo io si ri bi ii : Nat}
theorem pow_le {m n : Nat} (h : m ≤ n) : 2 ^ m ≤ 2 ^ n := Nat.pow_le_pow_right (by decide) h
theorem OKs.up {m : Nat} (h : OKs l s r b i n) (hn : n ≤ m) : OKs l s r b i m := by
  obtain ⟨S, R, B, I, hS, hR, hB, hI, g⟩ := h
  exact ⟨S, R, B, I, hS, hR, hB, hI, fun e q => (g e q).up (pow_le hn)⟩
theorem OKs.to {s' r' b' i' m : Nat} (h : OKs l s r b i n) (hs : s ≤ s') (hr : r ≤ r') (hb : b ≤ b') (hi : i ≤ i') (hn : n ≤ m) : OKs l s' r' b' i' m := by
  obtain ⟨S, R, B, I, hS, hR, hB, hI, g⟩ := h
  exact ⟨S, R, B, I, ⟨hS.1, pow_up hS.2 hs⟩, ⟨hR.1, pow_up hR.2 hr⟩, ⟨hB.1, pow_up hB.2 hb⟩, ⟨hI.1, pow_up hI.2 hi⟩, fun e q => (g e q).up (pow_le hn)⟩
theorem OKs.good (h : OKs l s r b i n) : ∀ e ∈ l, GoodE e := by
  obtain ⟨S, R, B, I, hS, hR, hB, hI, g⟩ := h
  exact fun e m => (g e m).g
theorem OKs.d (h : OKs l s r b i n) : OKd l (s + r + b) n := by
  obtain ⟨S, R, B, I, hS, hR, hB, hI, g⟩ := h
  exact ⟨S * R * B, Nat.mul_pos (Nat.mul_pos hS.1 hR.1) hB.1, mul_lt_pow (mul_lt_pow hS.2 hR.2) hB.2, fun e m => (g e m).ge (by rw [Nat.mul_assoc]; exact Nat.dvd_mul_right ..) (Nat.dvd_trans (Nat.dvd_mul_left ..) (Nat.dvd_mul_right ..)) (Nat.dvd_mul_left ..) (Nat.le_refl _)⟩
theorem OKs.app (h : OKs l s r b i n) (h' : OKs m so ro bo io n) : OKs (l ++ m) (s + so) (r + ro) (b + bo) (i + io) n := by
  obtain ⟨S, R, B, I, hS, hR, hB, hI, g⟩ := h
  obtain ⟨S', R', B', I', hS', hR', hB', hI', g'⟩ := h'
  exact ⟨S * S', R * R', B * B', I * I', ⟨Nat.mul_pos hS.1 hS'.1, mul_lt_pow hS.2 hS'.2⟩, ⟨Nat.mul_pos hR.1 hR'.1, mul_lt_pow hR.2 hR'.2⟩, ⟨Nat.mul_pos hB.1 hB'.1, mul_lt_pow hB.2 hB'.2⟩, ⟨Nat.mul_pos hI.1 hI'.1, mul_lt_pow hI.2 hI'.2⟩, fun e q => (List.mem_append.mp q).elim (fun q => (g e q).to (Nat.dvd_mul_right ..) (Nat.dvd_mul_right ..) (Nat.dvd_mul_right ..) (Nat.dvd_mul_right ..) (Nat.le_refl _)) fun q => (g' e q).to (Nat.dvd_mul_left ..) (Nat.dvd_mul_left ..) (Nat.dvd_mul_left ..) (Nat.dvd_mul_left ..) (Nat.le_refl _)⟩
theorem add_lt_pow {a b m : Nat} (h : a < 2 ^ m) (h' : b < 2 ^ m) : a + b < 2 ^ (m + 1) := by rw [Nat.pow_succ]; omega
theorem bigp {d n D N : Nat} (h0 : 0 < D) (h1 : D < 2 ^ d) (h2 : N < 2 ^ n) (hd : d ≤ 1700) (hn : n ≤ 400) : Big D N := ⟨h0, pow_up h1 hd, pow_up h2 hn⟩
theorem lt_pow1 {n : Nat} : 2 ^ n < 2 ^ (n + 1) := Nat.pow_lt_pow_right (by decide) (Nat.lt_succ_self n)
theorem over_oks {outer inner : List Er} (k : Nat) (ho : OKs outer so ro bo io n) (hi : OKs inner si ri bi ii n) (hk : outer.length * (inner.length + 1) + 1 < 2 ^ k) (hk2 : inner.length + 1 < 2 ^ k) (hk3 : outer.length < 2 ^ k) (hk16 : k ≤ 16)
    (h1 : so + (si + bo + io) + (ro + ri) + (bi + ri + (si + bo)) ≤ 1700) (h2 : si + ri + bi + bo ≤ 850) (h3 : so + ro + bo ≤ 1700) (h4 : 2 * n + k + 7 ≤ 400) :
    m_over (outer.map G) (inner.map G) = .ok ((overR outer inner).map G) ∧ OKs (overR outer inner) (so + (si + bo + io)) (ro + ri) (bi + ri + (si + bo)) (io + ii) (2 * n + k + 4) := by
  obtain ⟨So, Ro, Bo, Io, hSo, hRo, hBo, hIo, go⟩ := ho
  obtain ⟨Si, Ri, Bi, Ii, hSi, hRi, hBi, hIi, gi⟩ := hi
  have hN : 2 ^ n < 2 ^ (n + 1) := lt_pow1
  have hNN : 2 ^ n + 2 ^ n < 2 ^ (n + 2) := add_lt_pow hN hN
  have hON : ON (2 ^ n) (outer.length * (inner.length + 1)) < 2 ^ (2 * n + k + 4) := by
    have := mul_lt_pow (mul_lt_pow hNN hNN) hk
    exact pow_up this (by omega)
  have hX : 2 ^ n + 2 ^ n + 2 ^ n * (inner.length + 1) + 2 ^ n * 2 ^ n < 2 ^ (2 * n + k + 6) := by
    have a1 : 2 ^ n + 2 ^ n < 2 ^ (2 * n + k + 4) := pow_up hNN (by omega)
    have a2 : 2 ^ n * (inner.length + 1) < 2 ^ (2 * n + k + 4) := pow_up (mul_lt_pow hN hk2) (by omega)
    have a3 : 2 ^ n * 2 ^ n < 2 ^ (2 * n + k + 5) := pow_up (mul_lt_pow hN hN) (by omega)
    exact add_lt_pow (add_lt_pow a1 a2) a3
  have pS := mul_lt_pow hSo.2 (mul_lt_pow (mul_lt_pow hSi.2 hBo.2) hIo.2)
  have pR := mul_lt_pow hRo.2 hRi.2
  have pB := mul_lt_pow (mul_lt_pow hBi.2 hRi.2) (mul_lt_pow hSi.2 hBo.2)
  have zS := Nat.mul_pos hSo.1 (Nat.mul_pos (Nat.mul_pos hSi.1 hBo.1) hIo.1)
  have zR := Nat.mul_pos hRo.1 hRi.1
  have zB := Nat.mul_pos (Nat.mul_pos hBi.1 hRi.1) (Nat.mul_pos hSi.1 hBo.1)
  have pD := mul_lt_pow (mul_lt_pow (mul_lt_pow hSi.2 hRi.2) hBi.2) hBo.2
  have zD := Nat.mul_pos (Nat.mul_pos (Nat.mul_pos hSi.1 hRi.1) hBi.1) hBo.1
  have k16 : 2 ^ k ≤ 2 ^ 16 := pow_le hk16
  have e16 : (2 : Nat) ^ 16 = 65536 := by decide
  obtain ⟨e, g⟩ := over_m (N := 2 ^ n) (Nat.one_le_two_pow) (by omega) (by omega) (by omega)
    (bigp (Nat.mul_pos (Nat.mul_pos zS zR) zB) (mul_lt_pow (mul_lt_pow pS pR) pB) hON (by omega) (by omega))
    (bigp (Nat.mul_pos zD zD) (mul_lt_pow pD pD) (add_lt_pow (pow_up hON (show _ ≤ 2 * n + k + 6 by omega)) hX) (by omega) (by omega))
    (bigp (Nat.mul_pos (Nat.mul_pos hSo.1 hRo.1) hBo.1) (mul_lt_pow (mul_lt_pow hSo.2 hRo.2) hBo.2) hN (by omega) (by omega)) gi go
  exact ⟨e, _, _, _, _, ⟨zS, pS⟩, ⟨zR, pR⟩, ⟨zB, pB⟩, ⟨Nat.mul_pos hIo.1 hIi.1, mul_lt_pow hIo.2 hIi.2⟩, fun x m => (g x m).up (Nat.le_of_lt hON)⟩
theorem tidy_ok {d : Nat} (k : Nat) (h : OKd l d n) (hk : l.length + 1 < 2 ^ k) (hk16 : k ≤ 16) (hd : d ≤ 1700) (hn : n + k + 1 ≤ 400) : m_tidy (l.map G) = .ok ((tidyR l).map G) ∧ OKd (tidyR l) d (n + k + 1) := by
  obtain ⟨D, h0, h1, g⟩ := h
  have k16 : 2 ^ k ≤ 2 ^ 16 := pow_le hk16
  have e16 : (2 : Nat) ^ 16 = 65536 := by decide
  have hN : 2 ^ n < 2 ^ (n + 1) := lt_pow1
  have hM : 2 ^ n * (l.length + 1) < 2 ^ (n + k + 1) := pow_up (mul_lt_pow hN hk) (by omega)
  obtain ⟨e, g'⟩ := tidy_m (by omega) (bigp h0 h1 hM hd hn) g
  exact ⟨e, D, h0, h1, fun x m => (g' x m).to (Nat.dvd_refl _) (Nat.le_of_lt hM)⟩
end
/-- one top for all rates -/
theorem tops : ∀ (l : List Er), (∀ e ∈ l, GX NN e) → ∃ I : Nat, 0 < I ∧ I ≤ 2 ^ (64 * l.length) ∧ ∀ e ∈ l, e.r ≠ 0 → Dv I NN (1 / e.r)
  | [], _ => ⟨1, by decide, by decide, fun _ m => nomatch m⟩
  | e :: l, h => by
    obtain ⟨I, i0, i1, g⟩ := tops l fun y m => h y (List.mem_cons_of_mem _ m)
    have he := h e List.mem_cons_self
    by_cases hr : e.r = 0
    · refine ⟨I, i0, Nat.le_trans i1 (pow_le (by show _ ≤ 64 * (l.length + 1); omega)), fun y m => ?_⟩
      rcases List.mem_cons.mp m with rfl | m
      · exact fun q => absurd hr q
      · exact g y m
    · have hb := he.r.bound (by decide)
      have hn : e.r.num ≠ 0 := fun z => hr (Rat.num_eq_zero.mp z)
      have hn0 := Rat.num_nonneg.mpr he.g.r
      refine ⟨I * e.r.num.natAbs, Nat.mul_pos i0 (by omega), ?_, fun y m => ?_⟩
      · show _ ≤ 2 ^ (64 * (l.length + 1))
        rw [show 64 * (l.length + 1) = 64 * l.length + 64 by omega, Nat.pow_add]
        exact Nat.mul_le_mul i1 (Nat.le_trans hb.1 (by decide))
      · rcases List.mem_cons.mp m with rfl | m
        · intro _
          refine ⟨(y.r.den : Int) * (I : Int), ?_, ?_⟩
          · have e1 : (y.r.num.natAbs : Int) = y.r.num := by omega
            have e2 : y.r = (y.r.num : Rat) / (y.r.den : Rat) := by
              have := (Rat.num_divInt_den y.r).symm
              rw [Rat.divInt_eq_div, Rat.intCast_natCast] at this
              exact this
            have hd : (y.r.den : Rat) ≠ 0 := fun z => by have := Rat.natCast_eq_zero_iff.mp z; have := y.r.den_nz; omega
            have e3 : y.r * (y.r.den : Rat) = (y.r.num : Rat) := by
              have := Rat.div_mul_cancel (a := (y.r.num : Rat)) hd
              rw [← e2] at this
              exact this
            have e4 : 1 / y.r * y.r = 1 := Rat.div_mul_cancel hr
            rw [Rat.natCast_mul, Rat.intCast_mul, Rat.intCast_natCast, Rat.intCast_natCast, ← Rat.intCast_natCast y.r.num.natAbs, e1, ← e3]
            grind
          · rw [Int.natAbs_mul, Int.natAbs_natCast, Int.natAbs_natCast]
            have h1 : y.r.den ≤ NN := Nat.le_trans hb.2 (by decide)
            have h2 : I ≤ I * y.r.num.natAbs := Nat.le_mul_of_pos_right _ (by omega)
            exact Nat.mul_le_mul h1 h2
        · exact fun q => (g y m q).den (Nat.dvd_mul_right ..)
theorem base_oks {l : List Er} (h : ∀ e ∈ l, GX NN e) : OKs l 34 34 68 (64 * l.length + 1) 65 := by
  obtain ⟨I, i0, i1, g⟩ := tops l h
  refine ⟨D0, D0, DD, I, by decide, by decide, by decide, ⟨i0, Nat.lt_of_le_of_lt i1 lt_pow1⟩, fun e m => ?_⟩
  have ge := h e m
  have n65 : NN ≤ 2 ^ 65 := by decide
  exact ⟨ge.g, ge.s.up (by decide), ge.r.up (by decide), fun x q => (ge.b x q).up n65, (ge.r.mul ge.s).up (by decide), fun q => (g e m q).up n65⟩
end A

set_option Elab.async false
set_option linter.all false
set_option maxRecDepth 100000
set_option maxHeartbeats 2000000
namespace A
open PySem PySem.Spec PyProof.Rows L2 Y
open Y.Enc (enc)
/-! # loops with a measure, slices, rising lists -/
theorem Ok.while {S R : Type} {f : S → Res (Fl S R)} (I : S → Prop) (Q : S → Prop) (μ : S → Nat) (hf : ∀ s, I s → Ok (f s) fun r => (∃ s', r = .nx s' ∧ I s' ∧ μ s' < μ s) ∨ ∃ s', r = .bk s' ∧ Q s') : ∀ (n : Nat) {s : S}, μ s < n → I s → Ok (whileR n s f) fun r => ∃ s', r = .bk s' ∧ Q s'
  | 0, s, h, _ => absurd h (Nat.not_lt_zero _)
  | n + 1, s, h, hI => by
    refine Ok.bind (hf s hI) ?_
    rintro r (⟨s', rfl, h', hm⟩ | ⟨s', rfl, q⟩)
    · exact Ok.while I Q μ hf n (by omega) h'
    · exact Ok.pure ⟨s', rfl, q⟩
theorem cut_to {α : Type} {l : List α} {i : Int} (h0 : 0 ≤ i) (h1 : i ≤ (l.length : Int)) : cutL l none (some i) = l.take i.toNat := by
  obtain ⟨n, rfl⟩ : ∃ n : Nat, i = (n : Int) := ⟨i.toNat, by omega⟩
  unfold cutL
  rw [HT.sIx_nat, HT.sIx_none, List.drop_zero, Int.toNat_natCast, show min n l.length - 0 = n by omega]
theorem cut_from {α : Type} {l : List α} {i : Int} (h0 : 0 ≤ i) (h1 : i ≤ (l.length : Int)) : cutL l (some i) none = l.drop i.toNat := by
  obtain ⟨n, rfl⟩ : ∃ n : Nat, i = (n : Int) := ⟨i.toNat, by omega⟩
  unfold cutL
  rw [HT.sIx_nat, HT.sIx_none, Int.toNat_natCast, show min n l.length = n by omega]
  exact List.take_of_length_le (by rw [List.length_drop]; exact Nat.le_refl _)
theorem cut_map {α β : Type} (g : α → β) (l : List α) (lo hi : Option Int) : cutL (l.map g) lo hi = (cutL l lo hi).map g := by
  unfold cutL
  rw [List.length_map, List.map_take, List.map_drop]
theorem cut_last {α : Type} (l : List α) : cutL l none (some (-1)) = l.dropLast := by
  unfold cutL
  rw [HT.sIx_none, List.drop_zero, Nat.sub_zero, List.dropLast_eq_take]
  congr 1
  unfold HT.sIx
  simp
  omega
/-- rising -/
abbrev Inc (l : List Rat) : Prop := l.Pairwise (· < ·)
theorem inc_ext : ∀ {l m : List Rat}, Inc l → Inc m → (∀ x, x ∈ l ↔ x ∈ m) → l = m
  | [], [], _, _, _ => rfl
  | [], y :: m, _, _, h => nomatch (h y).mpr List.mem_cons_self
  | x :: l, [], _, _, h => nomatch (h x).mp List.mem_cons_self
  | x :: l, y :: m, hl, hm, h => by
    have hl' := List.pairwise_cons.mp hl
    have hm' := List.pairwise_cons.mp hm
    have e : x = y := by
      rcases List.mem_cons.mp ((h x).mp List.mem_cons_self) with e | e
      · exact e
      · rcases List.mem_cons.mp ((h y).mpr List.mem_cons_self) with e' | e'
        · exact e'.symm
        · have a := hm'.1 x e
          have b := hl'.1 y e'
          grind
    subst e
    congr 1
    refine inc_ext hl'.2 hm'.2 fun z => ⟨fun q => ?_, fun q => ?_⟩
    · rcases List.mem_cons.mp ((h z).mp (List.mem_cons_of_mem _ q)) with e | e
      · have := hl'.1 z q; rw [e] at this; exact absurd this Rat.lt_irrefl
      · exact e
    · rcases List.mem_cons.mp ((h z).mpr (List.mem_cons_of_mem _ q)) with e | e
      · have := hm'.1 z q; rw [e] at this; exact absurd this Rat.lt_irrefl
      · exact e
theorem inc_app {l m : List Rat} : Inc (l ++ m) ↔ Inc l ∧ Inc m ∧ ∀ x ∈ l, ∀ y ∈ m, x < y := List.pairwise_append
theorem inc_get {l : List Rat} (h : Inc l) {i j : Nat} {x y : Rat} (hi : l[i]? = some x) (hj : l[j]? = some y) (hij : i < j) : x < y := by
  obtain ⟨h1, rfl⟩ := List.getElem?_eq_some_iff.mp hi
  obtain ⟨h2, rfl⟩ := List.getElem?_eq_some_iff.mp hj
  exact List.pairwise_iff_getElem.mp h i j h1 h2 hij
theorem Ok.ixF {δ : Type} {l : List Rat} {i : Int} {k : Fr → Res δ} {ψ : δ → Prop} (h0 : 0 ≤ i) (h1 : i < (l.length : Int)) (h : ∀ e, e ∈ l → l[i.toNat]? = some e → Ok (k (F e)) ψ) : Ok ((ixR (l.map F) i).bind k) ψ := by
  refine Ok.ix h0 (by rw [List.length_map]; exact h1) fun x m q => ?_
  rw [List.getElem?_map] at q
  cases e : l[i.toNat]? with
  | none => rw [e] at q; exact nomatch q
  | some y =>
    rw [e] at q
    cases q
    exact h y (List.mem_of_getElem? e) e
/-- the borders: begins and ends, rising -/
def bordR : List Er → Rat → List Rat | [], b => [b] | e :: l, b => b :: bordR l (b + e.s)
theorem bord_ge : ∀ {l : List Er} {b : Rat}, (∀ e ∈ l, 0 < e.s) → ∀ x ∈ bordR l b, b ≤ x
  | [], b, _, x, m => by rw [List.mem_singleton.mp m]; exact Rat.le_refl
  | e :: l, b, g, x, m => by
    rcases List.mem_cons.mp m with rfl | m
    · exact Rat.le_refl
    · have := bord_ge (fun y m => g y (List.mem_cons_of_mem _ m)) x m
      have := g e List.mem_cons_self
      grind
theorem bord_inc : ∀ {l : List Er} {b : Rat}, (∀ e ∈ l, 0 < e.s) → Inc (bordR l b)
  | [], b, _ => List.pairwise_singleton ..
  | e :: l, b, g => by
    refine List.pairwise_cons.mpr ⟨fun x m => ?_, bord_inc fun y m => g y (List.mem_cons_of_mem _ m)⟩
    have := bord_ge (fun y m => g y (List.mem_cons_of_mem _ m)) x m
    have := g e List.mem_cons_self
    grind
theorem bord_len : ∀ (l : List Er) (b : Rat), (bordR l b).length = l.length + 1
  | [], _ => rfl
  | e :: l, b => congrArg Nat.succ (bord_len l _)
theorem bord_sum : ∀ (l : List Er) (b : Rat), b + sumR l ∈ bordR l b
  | [], b => by show b + 0 ∈ [b]; rw [Rat.add_zero]; exact List.mem_singleton.mpr rfl
  | e :: l, b => by
    have := bord_sum l (b + e.s)
    show b + (e.s + sumR l) ∈ b :: bordR l (b + e.s)
    rw [← Rat.add_assoc]
    exact List.mem_cons_of_mem _ this
theorem bord_le : ∀ {l : List Er} {b : Rat}, (∀ e ∈ l, 0 < e.s) → ∀ x ∈ bordR l b, x ≤ b + sumR l
  | [], b, _, x, m => by rw [List.mem_singleton.mp m]; show b ≤ b + 0; grind
  | e :: l, b, g, x, m => by
    have g' := fun y m => g y (List.mem_cons_of_mem e m)
    have := g e List.mem_cons_self
    have := sumR_nn g'
    show x ≤ b + (e.s + sumR l)
    rcases List.mem_cons.mp m with rfl | m
    · grind
    · have := bord_le g' x m
      grind
theorem bord_dv {D N : Nat} : ∀ {l : List Er} {b : Rat} {M : Nat}, (∀ e ∈ l, Ge D N e) → Dv D M b → ∀ x ∈ bordR l b, Dv D (M + N * l.length) x
  | [], b, M, _, hb, x, m => by rw [List.mem_singleton.mp m]; exact hb.up (by omega)
  | e :: l, b, M, g, hb, x, m => by
    rcases List.mem_cons.mp m with rfl | m
    · exact hb.up (by omega)
    · have := bord_dv (fun y m => g y (List.mem_cons_of_mem _ m)) (hb.add (g e List.mem_cons_self).s) x m
      exact this.up (by show M + N + N * l.length ≤ M + N * (l.length + 1); rw [Nat.mul_succ]; omega)
theorem bord_walk {D N : Nat} {R : Type} {pl : Fr → Fr → Res Fr} (hpl : ∀ p q, Sz p → Sz q → pl (F p) (F q) = .ok (F (p + q))) : ∀ (l : List Er) (pre : List Rat) (b : Rat) (i : Nat), Big D (N * (i + l.length + 1)) → pre.length + l.length ≤ 900000 → Dv D (N * i) b → (∀ e ∈ l, Ge D N e) →
    forR (l.map G) (pre.map F ++ [F b]) (fun x24 (a23 : List Fr) => (ixR a23 (-1)).bind fun x47 => (pl x47 x24.a).bind fun x51 => guardR (a23.length < 1000000) <| (.ok (.nx (a23 ++ [x51])) : Res (Fl (List Fr) R))) = .ok (.nx ((pre ++ bordR l b).map F))
  | [], pre, b, i, _, _, _, _ => by
    show Res.ok (Fl.nx (pre.map F ++ [F b])) = .ok (.nx ((pre ++ [b]).map F))
    rw [List.map_append]
    rfl
  | e :: l, pre, b, i, hB, hp, hb, g => by
    have ge := g e List.mem_cons_self
    have hp' : pre.length + (l.length + 1) ≤ 900000 := hp
    have n1 : N * i ≤ N * (i + (e :: l).length + 1) := Nat.mul_le_mul_left _ (by omega)
    have n2 : N ≤ N * (i + (e :: l).length + 1) := Nat.le_mul_of_pos_right _ (Nat.succ_pos _)
    show Res.bind (Res.bind (ixR (pre.map F ++ [F b]) (-1)) _) _ = _
    rw [ix_last]
    show Res.bind (Res.bind (pl (F b) (F e.s)) _) _ = _
    rw [hpl b e.s (hB.sz (hb.up n1)) (hB.sz (ge.s.up n2))]
    show Res.bind (guardR ((pre.map F ++ [F b]).length < 1000000) _) _ = _
    unfold guardR
    rw [if_pos (by rw [List.length_append, List.length_map]; show pre.length + 1 < 1000000; omega)]
    have := bord_walk (R := R) hpl l (pre ++ [b]) (b + e.s) (i + 1) (by rw [show i + 1 + l.length + 1 = i + (e :: l).length + 1 by show _ = i + (l.length + 1) + 1; omega]; exact hB) (by rw [List.length_append]; show pre.length + 1 + l.length ≤ _; omega) (by rw [Nat.mul_succ]; exact hb.add ge.s) fun y m => g y (List.mem_cons_of_mem _ m)
    rw [List.map_append] at this
    show forR (l.map G) (pre.map F ++ [F b] ++ [F (b + e.s)]) _ = _
    rw [show (pre ++ bordR (e :: l) b).map F = ((pre ++ [b]) ++ bordR l (b + e.s)).map F by rw [List.append_assoc]; rfl]
    exact this
end A

set_option Elab.async false
set_option linter.all false
set_option maxRecDepth 100000
set_option maxHeartbeats 2000000
namespace A
open PySem PySem.Spec PyProof.Rows L2 Y
open Y.Enc (enc)
theorem over_F {q : Rat} (h : 0 < q) : (⟨(F q).b, (F q).a⟩ : Fr) = F (1 / q) := by
  have hn0 := Rat.num_nonneg.mpr (show 0 ≤ q by grind)
  have hn : q.num ≠ 0 := fun z => by rw [Rat.num_eq_zero.mp z] at h; exact absurd h (by decide)
  have hp : 0 < q.num := by omega
  have hq : q ≠ 0 := by grind
  have e1 : (⟨(F q).b, (F q).a⟩ : Fr) = lowT (q.den : Int) q.num := (low_eq (f := ⟨(F q).b, (F q).a⟩) (a := (q.den : Int)) (b := q.num) ⟨hp, by
    show Int.gcd (q.den : Int) q.num = 1
    rw [Int.gcd_comm]
    exact (F_low q).2⟩ hn rfl).symm
  rw [e1, lowT_F hn]
  congr 1
  have e2 : q * (q.den : Rat) = (q.num : Rat) := by
    have hd : (q.den : Rat) ≠ 0 := fun z => by have := Rat.natCast_eq_zero_iff.mp z; have := q.den_nz; omega
    have e2 : q = (q.num : Rat) / (q.den : Rat) := by
      have := (Rat.num_divInt_den q).symm
      rw [Rat.divInt_eq_div, Rat.intCast_natCast] at this
      exact this
    have := Rat.div_mul_cancel (a := (q.num : Rat)) hd
    rw [← e2] at this
    exact this
  have h3 : ((q.num : Int) : Rat) ≠ 0 := fun y => by have := Rat.intCast_eq_zero_iff.mp y; omega
  have e3 : 1 / q * q = 1 := Rat.div_mul_cancel hq
  have e4 : Rat.divInt (q.den : Int) q.num * (q.num : Rat) = (q.den : Rat) := by
    rw [Rat.divInt_eq_div, Rat.intCast_natCast]
    exact Rat.div_mul_cancel h3
  have e5 : (Rat.divInt (q.den : Int) q.num - 1 / q) * (q.num : Rat) = 0 := by grind
  rcases Rat.mul_eq_zero.mp e5 with z | z
  · grind
  · exact absurd z h3
def DM (I : Nat) : Nat := DD * 840 * I
def NM : Nat := NN * 2 * NN
theorem met_ok {e : Er} {I : Nat} {m : Rat} (b : Big (DM I) NM) (gx : GX NN e) (hi : e.r ≠ 0 → Dv I NN (1 / e.r)) (m0 : 0 ≤ m) (dm : Dv D0 NN m) : Ok (l_met (F e.s) (e.b.map F) (F e.r) (F m)) fun r => r.length ≤ 1 ∧ ∀ x ∈ r, Mo (DM I) N1 x := by
  unfold l_met
  have bm : Dv DD NN m := dm.den (Nat.dvd_mul_right ..)
  have dI : DD ∣ DM I := ⟨840 * I, by unfold DM; rw [Nat.mul_assoc]⟩
  have dI2 : DD * I ∣ DM I := ⟨840, by unfold DM; rw [Nat.mul_right_comm]⟩
  have ge := gx.ge (Nat.le_refl _)
  have sX : ∀ {q : Rat} {N : Nat}, Dv DD N q → N ≤ NM → Sz q := fun h hn => b.sz (h.to dI hn)
  have n1 : NN ≤ NM := by decide
  refine Ok.bind (φ := fun c => c = false → ∃ x, e.b = some x ∧ e.r ≠ 0 ∧ x ≤ m) ?_ fun c hc => ?_
  · cases eb : e.b with
    | none => exact Ok.iteT rfl (Ok.pure fun z => nomatch z)
    | some x =>
      refine Ok.iteF rfl (Ok.ite (fun _ => Ok.pure fun z => nomatch z) fun c => Ok.bindE (a := F x) rfl (Ok.bindE (lless (sX bm n1) (sX (ge.b x eb) n1)) (Ok.pure fun z => ⟨x, rfl, fun r0 => ?_, ?_⟩)))
      · have := of_decide_eq_false c
        exact this (by rw [r0]; rfl)
      · have := of_decide_eq_false z
        grind
  · refine Ok.ite (fun _ => Ok.pure ⟨Nat.zero_le _, fun _ q => nomatch q⟩) fun cf => ?_
    obtain ⟨x, eb, hr, hx⟩ := hc cf
    have hr' : 0 < e.r := by have := ge.g.r; grind
    rw [eb]
    have dI3 := hi hr
    have ds := (bm.sub (ge.b x eb))
    have dl : Dv (DM I) NM ((m - x) * (1 / e.r)) := (ds.mul dI3).to dI2 (by decide)
    have iI : Dv (DM I) NM (1 / e.r) := dI3.to ⟨DD * 840, by unfold DM; rw [Nat.mul_comm]⟩ n1
    refine Ok.bindE (a := F x) rfl (Ok.bindE (lminus (sX bm n1) (sX (ge.b x eb) n1)) (Ok.bindE (by rw [over_F hr']; exact ltimes (sX ds (by decide)) (b.sz iI)) (Ok.bindE (lless (b.sz dl) (sX ge.s n1)) ?_)))
    have e1 : 1 / e.r * e.r = 1 := Rat.div_mul_cancel hr
    have p1 : 0 < 1 / e.r := by
      rcases Rat.le_total (a := 0) (b := 1 / e.r) with c | c
      · have : 1 / e.r ≠ 0 := fun z => by rw [z, Rat.zero_mul] at e1; exact absurd e1 (by decide)
        grind
      · have := Rat.mul_le_mul_of_nonneg_right c ge.g.r
        rw [e1, Rat.zero_mul] at this
        exact absurd this (by decide)
    have l0 : 0 ≤ (m - x) * (1 / e.r) := Rat.mul_nonneg (by grind) (by grind)
    by_cases c : (m - x) * (1 / e.r) < e.s
    · rw [decide_eq_true c]
      refine Ok.guard ⟨(by show 1 * 1 ≤ 1000000; decide), (by decide), (by decide)⟩ (Ok.pure ⟨Nat.le_refl _, fun y my => ?_⟩)
      have : y = F ((m - x) * (1 / e.r)) := List.mem_singleton.mp my
      rw [this]
      exact Mo.mk l0 (((gx.s.den (Nat.dvd_mul_right D0 D0)).den dI).mid dl l0 (by grind))
    · rw [decide_eq_false c]
      exact Ok.guard ⟨(by show 1 * 0 ≤ 1000000; decide), (by decide), (by decide)⟩ (Ok.pure ⟨Nat.zero_le _, fun y my => nomatch my⟩)
theorem bigO {D N : Nat} (b : Big D N) {q : Rat} (h : Mo D N (F q)) : Sz q := b.sz h.dv
theorem Mo.ex {D N : Nat} {x : Fr} (h : Mo D N x) : ∃ q, x = F q ∧ 0 ≤ q ∧ Dv D N q := h
theorem mem_app {D N : Nat} {l m : List Fr} (h : ∀ x ∈ l, Mo D N x) (h' : ∀ x ∈ m, Mo D N x) : ∀ x ∈ l ++ m, Mo D N x := fun x q => (List.mem_append.mp q).elim (h x) (h' x)
theorem moments_ok {a b : List Er} {cs : List Int} {I : Nat} (bM : Big (DM I) NM) (la : a.length ≤ 5) (lb : b.length ≤ 5) (lc : cs.length ≤ 63) (ga : ∀ e ∈ a, GX NN e) (gb : ∀ e ∈ b, GX NN e) (hi : ∀ e ∈ a, e.r ≠ 0 → Dv I NN (1 / e.r)) :
    Ok (l_moments (a.map G) (b.map G) cs) fun r => ∀ x ∈ r, Mo (DM I) NN x := by
  unfold l_moments
  have dI : DD ∣ DM I := ⟨840 * I, by unfold DM; rw [Nat.mul_assoc]⟩
  have d0 : D0 ∣ DM I := Nat.dvd_trans (Nat.dvd_mul_right D0 D0) dI
  have d840 : D0 * 2 ∣ DM I := Nat.dvd_trans (Nat.mul_dvd_mul (Nat.dvd_mul_right D0 D0) (show 2 ∣ 840 by decide)) (Nat.dvd_mul_right ..)
  have d420 : D0 * 420 ∣ DM I := Nat.dvd_trans (Nat.mul_dvd_mul (Nat.dvd_mul_right D0 D0) (show 420 ∣ 840 by decide)) (Nat.dvd_mul_right ..)
  have n1 : NN ≤ NM := by decide
  have gb' : ∀ e ∈ b, Ge D0 NN ⟨e.s, none, 0⟩ := fun e m => ⟨⟨(gb e m).g.s, Rat.le_refl, (fun _ q => nomatch q), fun _ => rfl⟩, (gb e m).s.up (by decide), dv0, fun _ q => nomatch q⟩
  have bB : Big DD (NN * (0 + b.length + 1)) := (big_of (D := DD) (N := NN * 6)).less (Nat.mul_le_mul_left _ (by omega))
  have w := bord_walk (R := List Fr) (pl := l_plus) (fun p q hp hq => lplus hp hq) b [] 0 0 bB (by show 0 + _ ≤ _; omega) dv0 fun e m => (gb e m).ge (Nat.le_refl _)
  refine Ok.bindE (by
    show forR (b.map G) (([] : List Rat).map F ++ [F 0]) _ = _
    exact w) ?_
  show Ok (Res.bind (forR (a.map G) _ _) _) _
  have hmk : ∀ x ∈ bordR b 0, 0 ≤ x ∧ Dv D0 NN x := fun x m => by
    have g0 := bord_ge (good_pos fun e m => (gb e m).ge (Nat.le_refl _)) x m
    have dx : Dv D0 (0 + N1 * b.length) x := by
      have : ∀ {l : List Er} {c : Rat} {M : Nat}, (∀ e ∈ l, GX NN e) → Dv D0 M c → ∀ x ∈ bordR l c, Dv D0 (M + N1 * l.length) x := fun {l} => by
        induction l with
        | nil => intro c M _ hc x m; rw [List.mem_singleton.mp m]; exact hc.up (by omega)
        | cons e l ih =>
          intro c M g hc x m
          rcases List.mem_cons.mp m with rfl | m
          · exact hc.up (by omega)
          · exact (ih (fun y m => g y (List.mem_cons_of_mem _ m)) (hc.add (g e List.mem_cons_self).s) x m).up (by rw [List.length_cons, Nat.mul_succ]; omega)
      exact this gb dv0 x m
    exact ⟨g0, dx.up (Nat.le_trans (show 0 + N1 * b.length ≤ N1 * 5 by rw [Nat.zero_add]; exact Nat.mul_le_mul_left _ lb) (by decide))⟩
  have lmk : (bordR b 0).length ≤ 6 := by rw [bord_len]; omega
  generalize bordR b 0 = mk at *
  refine Ok.bind (Ok.forM (fun xs (s : List Fr × Fr) => ∃ q i, s.2 = F q ∧ 0 ≤ q ∧ Dv D0 (N1 * i) q ∧ i + xs.length = a.length ∧ (∀ x ∈ s.1, Mo (DM I) (N1 * 8) x) ∧ s.1.length ≤ 8 * i ∧ (∀ e ∈ xs, GX NN e) ∧ ∀ e ∈ xs, e.r ≠ 0 → Dv I NN (1 / e.r)) ?_ (l := a) ⟨0, 0, rfl, Rat.le_refl, dv0, by omega, (fun _ m => nomatch m), Nat.zero_le _, ga, hi⟩) ?_
  · rintro e xs ⟨s1, s2⟩ ⟨q, i, e2, q0, dq, hil, hm, hl, gx, gi⟩
    simp only at e2 hm hl
    subst e2
    have he := gx e List.mem_cons_self
    have hie := gi e List.mem_cons_self
    have hil' : i + (xs.length + 1) = a.length := hil
    have qn : N1 * i ≤ N1 * 4 := Nat.mul_le_mul_left _ (by omega)
    have dq4 : Dv D0 (N1 * 4) q := dq.up qn
    have es := he.g.s
    have sq : Sz q := bM.sz (dq4.to d0 (by decide))
    have dh : Dv (D0 * 2) (N1 * 1) (e.s * Rat.divInt 1 2) := he.s.mul half_dv
    have ph : 0 ≤ e.s * Rat.divInt 1 2 := by rw [divInt_half]; grind
    refine Ok.bindE (by rw [half_F]; exact ltimes (bM.sz (he.s.to d0 (by decide))) (bM.sz (half_dv.to (Nat.dvd_trans (Nat.dvd_mul_left 2 D0) d840) (by decide)))) (Ok.bindE (lplus sq (bM.sz (dh.to d840 (by decide)))) ?_)
    refine Ok.guard (by show s1.length + 2 ≤ _; omega) ?_
    have dqM : Dv (DM I) (N1 * 4) q := dq4.den d0
    have hm2 : ∀ x ∈ s1 ++ [F q, F (q + e.s * Rat.divInt 1 2)], Mo (DM I) (N1 * 8) x := mem_app hm fun x m => by
      rcases List.mem_cons.mp m with rfl | m
      · exact Mo.mk q0 (dqM.up (by decide))
      · rw [List.mem_singleton.mp m]
        exact Mo.mk (by grind) ((dqM.add (dh.den d840)).up (by decide))
    refine Ok.bind (Ok.forM (fun ys (s : List Fr) => (∀ x ∈ s, Mo (DM I) (N1 * 8) x) ∧ s.length + ys.length ≤ 8 * i + 8 ∧ ∀ y ∈ ys, 0 ≤ y ∧ Dv D0 NN y) ?_ (l := mk) ⟨hm2, by rw [List.length_append]; show s1.length + 2 + _ ≤ _; omega, hmk⟩) ?_
    · rintro y ys s ⟨hs, hls, hy⟩
      have hls' : s.length + (ys.length + 1) ≤ 8 * i + 8 := hls
      obtain ⟨y0, dy⟩ := hy y List.mem_cons_self
      refine Ok.bind (met_ok bM he hie y0 dy) fun r ⟨hr1, hr⟩ => ?_
      refine Ok.bind (Ok.compLen (by omega) (fun _ => True) (fun x => Mo (DM I) (N1 * 8) x) ?_ trivial) ?_
      · intro x u mx _
        obtain ⟨z, rfl, z0, dz⟩ := hr x mx
        refine Ok.bindE (lplus sq (bM.sz (dz.up (by decide)))) (Ok.pure ⟨trivial, fun w hw => ?_⟩)
        cases hw
        exact Mo.mk (by grind) ((dqM.add dz).up (by decide))
      · rintro ⟨acc, u⟩ ⟨_, hacc, hal⟩
        simp only at hacc hal
        exact Ok.guard (by show s.length + acc.length ≤ _; omega) (Ok.pure ⟨_, rfl, mem_app hs hacc, (by show (s ++ acc).length + ys.length ≤ _; rw [List.length_append]; omega), fun y m => hy y (List.mem_cons_of_mem _ m)⟩)
    · rintro _ ⟨s, rfl, hs, hls, _⟩
      have hls' : s.length + 0 ≤ 8 * i + 8 := hls
      exact Ok.bindE (lplus sq (bM.sz (he.s.to d0 (by decide)))) (Ok.pure ⟨_, rfl, q + e.s, i + 1, rfl, by grind, by rw [Nat.mul_succ]; exact dq.add he.s, by omega, hs, by simp only; omega, fun y m => gx y (List.mem_cons_of_mem _ m), fun y m => gi y (List.mem_cons_of_mem _ m)⟩)
  rintro _ ⟨⟨s1, s2⟩, rfl, q, i, e2, q0, dq, hil, hm, hl, _⟩
  simp only at e2 hm hl
  subst e2
  have hil' : i + 0 = a.length := hil
  have dq5 : Dv D0 (N1 * 5) q := dq.up (Nat.mul_le_mul_left _ (by omega))
  have n8 : N1 * 8 ≤ NN := by decide
  show Ok (Res.bind (forR cs s1 _) _) _
  refine Ok.bind (φ := fun r => ∃ s, r = .nx s ∧ (∀ x ∈ s, Mo (DM I) NN x) ∧ s.length ≤ 1000) ?_ ?_
  · have h0 : (∀ x ∈ s1, Mo (DM I) NN x) ∧ s1.length + cs.length ≤ 200 := ⟨fun x m => (hm x m).to (Nat.dvd_refl _) n8, by omega⟩
    clear hm hl
    clear lc w
    suffices ∀ (cs : List Int) (s1 : List Fr), (∀ x ∈ s1, Mo (DM I) NN x) ∧ s1.length + cs.length ≤ 200 → Ok (forR cs s1 _) fun r => ∃ s, r = .nx s ∧ (∀ x ∈ s, Mo (DM I) NN x) ∧ s.length ≤ 1000 from this cs s1 h0
    intro cs
    induction cs with
    | nil => intro s h; exact Ok.pure ⟨s, rfl, h.1, by have : s.length + 0 ≤ 200 := h.2; omega⟩
    | cons c cs ih =>
      intro s ⟨h1, h2⟩
      have h2' : s.length + (cs.length + 1) ≤ 200 := h2
      refine Ok.bind (φ := fun r => ∃ x, r = .nx (s ++ [x]) ∧ Mo (DM I) NN x) ?_ ?_
      · refine Ok.bind (amount_ok (.inl rfl)) ?_
        rintro ⟨am, s5⟩ ⟨⟨z, rfl, z0, dz⟩, h5⟩
        simp only at h5
        refine dg (gd3 h5) (by decide) (bg (by decide)) fun y s6 a6 b6 h6 => dg (gd3 h6) (by decide) (bg (by decide)) fun u s7 a7 b7 h7 => Ok.low (by omega) (by omega) ?_
        have mw : Mo 420 40 (F (Rat.divInt y (1 + u))) := Mo.dig (z := 40) a6 (by omega) (by omega) (by
          have : u = 0 ∨ u = 1 ∨ u = 2 ∨ u = 3 ∨ u = 4 ∨ u = 5 ∨ u = 6 := by omega
          rcases this with rfl | rfl | rfl | rfl | rfl | rfl | rfl <;> decide) (by decide)
        have w0 := mw.nn
        have dw := mw.dv.den (E := DM I) (Nat.dvd_trans (Nat.dvd_mul_left 420 D0) d420)
        have dzM := dz.den (E := DM I) d0
        exact Ok.bindE (lplus (bM.sz (dzM.up (by decide))) (bM.sz (dw.up (by decide)))) (Ok.guard (by omega) (Ok.pure ⟨_, rfl, Mo.mk (by grind) ((dzM.add dw).up (by decide))⟩))
      · rintro _ ⟨x, rfl, hx⟩
        exact ih (s ++ [x]) ⟨mem_app h1 fun y m => by rw [List.mem_singleton.mp m]; exact hx, by rw [List.length_append]; show s.length + 1 + _ ≤ _; omega⟩
  · rintro _ ⟨s, rfl, hs, hls⟩
    have third : (⟨1, 3⟩ : Fr) = F (Rat.divInt 1 3) := (low_eq (f := ⟨1, 3⟩) (a := 1) (b := 3) ⟨by decide, by decide⟩ (by decide) (by decide)).symm.trans (lowT_F (by decide))
    have t3 : Dv 3 1 (Rat.divInt 1 3) := Dv.of (by decide) (by decide) (by decide)
    have t0 : 0 ≤ Rat.divInt 1 3 := Rat.divInt_nonneg (by decide) (by decide)
    have t3M : Dv (DM I) 1 (Rat.divInt 1 3) := t3.den (Nat.dvd_trans (Nat.dvd_trans (show 3 ∣ 420 by decide) (Nat.dvd_mul_left 420 D0)) d420)
    have dqM := dq5.den (E := DM I) d0
    refine Ok.bindE (by rw [third]; exact lplus (bM.sz (dqM.up (by decide))) (bM.sz (t3M.up (by decide)))) (Ok.guard (by show s.length + 2 ≤ _; omega) (Ok.pure (mem_app hs fun x m => ?_)))
    rcases List.mem_cons.mp m with rfl | m
    · exact Mo.mk q0 (dqM.up (by decide))
    · rw [List.mem_singleton.mp m]
      exact Mo.mk (by grind) ((dqM.add t3M).up (by decide))
theorem eqOk_ed18 (e : Ed) : eqOk 18 (enc e) = true := by
  obtain ⟨a, b, c⟩ := e
  cases b <;> rfl
theorem eqOk_eds19 (l : List Ed) : eqOk 19 (enc l) = true := by
  show eqOks 18 (l.map enc) = true
  induction l with
  | nil => rfl
  | cons x xs ih => show (eqOk 18 (enc x) && eqOks 18 (xs.map enc)) = true; rw [ih, eqOk_ed18]; rfl
theorem eqOk_two (l m : List Ed) : eqOk 20 (enc ([l, m] : List (List Ed))) = true := by
  show (eqOk 19 (enc l) && (eqOk 19 (enc m) && true)) = true
  rw [eqOk_eds19, eqOk_eds19]
  rfl
theorem ok_two (l m : List Ed) : okEq (enc ([l, m] : List (List Ed))) (enc ([l, m] : List (List Ed))) := okEq_of (eqOk_two l m) (eqOk_two l m)
theorem eq_two (l m : List Ed) : eqD (enc ([l, m] : List (List Ed))) (enc ([l, m] : List (List Ed))) = true := eqD_refl (eqOk_flat _ 20 (eqOk_two l m)).1
theorem nil_oks : OKs [] 1 1 1 1 0 := ⟨1, 1, 1, 1, by decide, by decide, by decide, by decide, fun _ m => nomatch m⟩
theorem over_nil {a : List Er} : overR [] a = [] := rfl
theorem over_nil' {a : List Er} (ga : ∀ e ∈ a, GoodE e) : overR a [] = [] := by
  have gn : ∀ e ∈ ([] : List Er), GoodE e := fun _ m => nomatch m
  refine tidy_nil (tidy_tidy _) (over_good gn ga) fun t t0 => ?_
  rw [over_led gn ga t0]
  cases ledR a t <;> rfl
theorem law_ok (ns : List Int) (h : ns.length ≤ 63) : m_law ns = .ok true := by
  have q : Ok (m_law ns) fun r => r = true := by
    unfold m_law
    refine Ok.bind (cell_ok (by decide)) fun x1 _ => Ok.bind (edits_okX (.inl rfl) (by decide) (by decide)) ?_
    rintro ⟨a', s1⟩ ⟨⟨a, ea, ha, ga⟩, _⟩
    simp only at ea
    subst ea
    have ha : a.length ≤ 5 := ha
    refine Ok.bind (cell_ok (by decide)) fun x2 _ => Ok.bind (edits_okX (.inl rfl) (by decide) (by decide)) ?_
    rintro ⟨b', s2⟩ ⟨⟨b, eb, hb, gb⟩, _⟩
    simp only at eb
    subst eb
    have hb : b.length ≤ 5 := hb
    simp only
    have oa : OKs a 34 34 68 321 65 := (base_oks ga).to (Nat.le_refl _) (Nat.le_refl _) (Nat.le_refl _) (by omega) (Nat.le_refl _)
    have ob : OKs b 34 34 68 321 65 := (base_oks gb).to (Nat.le_refl _) (Nat.le_refl _) (Nat.le_refl _) (by omega) (Nat.le_refl _)
    have hk : a.length * (b.length + 1) ≤ 30 := Nat.mul_le_mul ha (show _ + 1 ≤ 6 by omega)
    obtain ⟨e1, o1⟩ := over_oks 7 oa ob (by omega) (by omega) (by omega) (by decide) (by decide) (by decide) (by decide) (by decide)
    have l1 : (overR a b).length ≤ 30 := Nat.le_trans (over_len a b) hk
    have t1 : TidyR (overR a b) := tidy_tidy _
    obtain ⟨DF, f0, f1, gf⟩ := o1.d
    have bF : Big DF (2 ^ 144) := bigp (n := 145) f0 f1 (Nat.pow_lt_pow_right (by decide) (by decide)) (by decide) (by decide)
    refine Ok.bindE (noErr_ok e1) (Ok.guard (ok_two _ _) (Ok.iteF (by rw [eq_two]; rfl) (Ok.bindE (istidy_l (by omega) (bF.less (pow_le (by decide))) t1 gf) (Ok.iteT rfl ?_))))
    obtain ⟨I, i0, i1, gi⟩ := tops a ga
    have i1' : I < 2 ^ 321 := Nat.lt_of_le_of_lt (Nat.le_trans i1 (pow_le (by omega))) lt_pow1
    have d0 : 0 < DM I := Nat.mul_pos (by decide) i0
    have d1 : DM I < 2 ^ 400 := pow_up (mul_lt_pow (show DD * 840 < 2 ^ 79 by decide) i1') (by decide)
    have bM : Big (DM I) NM := bigp (n := 140) d0 d1 (by decide) (by decide) (by decide)
    refine Ok.bind (moments_ok bM ha hb (Nat.le_trans cutL_len h) ga gb gi) fun ms hms => ?_
    refine Ok.bind (Ok.for (fun _ => True) (fun x u m _ => ?_) (s := ()) trivial) ?_
    · obtain ⟨t, rfl, t0, dt⟩ := hms x m
      have b1 : Big (DF * DM I) (2 ^ 144) := bigp (n := 145) (Nat.mul_pos f0 d0) (mul_lt_pow f1 d1) (Nat.pow_lt_pow_right (by decide) (by decide)) (by decide) (by decide)
      have n65 : NN ≤ 2 ^ 65 := by decide
      have f1 := led_l b1 (overR a b) t t0 (dt.to (Nat.dvd_mul_left ..) (Nat.le_trans n65 (pow_le (by decide)))) fun e m => (gf e m).to (Nat.dvd_mul_right ..) (pow_le (by decide))
      have dd : DD ∣ DM I := ⟨840 * I, by unfold DM; rw [Nat.mul_assoc]⟩
      have f2 := led_l bM a t t0 (dt.up (by decide)) fun e m => ((ga e m).ge (Nat.le_refl _)).to dd (by decide)
      have f3 : l_through (a.map G) (b.map G) (F t) = .ok ((ledR (overR a b) t).map F) := by
        rw [over_led ob.good oa.good t0]
        unfold l_through
        rw [f2]
        cases ex : ledR a t with
        | none => rfl
        | some x =>
          have gs : ∀ e ∈ a, Gs D0 D0 DD I (2 ^ 65) e := fun e m => by
            have ge := ga e m
            exact ⟨ge.g, ge.s.up (by decide), ge.r.up (by decide), fun x q => (ge.b x q).up n65, (ge.r.mul ge.s).up (by decide), fun q => (gi e m q).up n65⟩
          have x0 := led_nn oa.good t0 ex
          have dx := led_dv (C := DM I) gs (dt.to (Nat.dvd_mul_left ..) n65) t0 ex
          have b3 : Big (DD * D0 * (D0 * DM I)) (2 ^ 65 + 2 ^ 65 * 2 ^ 65) := bigp (n := 131) (Nat.mul_pos (by decide) (Nat.mul_pos (by decide) d0)) (mul_lt_pow (show DD * D0 < 2 ^ 110 by decide) (mul_lt_pow (show D0 < 2 ^ 40 by decide) d1)) (by decide) (by decide) (by decide)
          show ((l_led (b.map G) (F x)).bind fun x10 => Res.ok x10) = .ok ((ledR b x).map F)
          rw [led_l b3 b x x0 dx fun e m => ((gb e m).ge (Nat.le_refl _)).to (by rw [Nat.mul_assoc]; exact Nat.dvd_mul_right ..) (by decide)]
          rfl
      exact Ok.bindE f1 (Ok.bindE f3 (Ok.guard (okO _ _) (Ok.iteF (by rw [eqO]; simp) (Ok.pure ⟨_, rfl, trivial⟩))))
    rintro _ ⟨_, rfl, _⟩
    have z := nil_oks.up (m := 65) (by decide)
    obtain ⟨e2, _⟩ := over_oks 7 oa z (show a.length * (0 + 1) + 1 < 2 ^ 7 by omega) (by decide) (by omega) (by decide) (by decide) (by decide) (by decide) (by decide)
    obtain ⟨e3, _⟩ := over_oks 7 z ob (show 0 * (b.length + 1) + 1 < 2 ^ 7 by omega) (by omega) (by decide) (by decide) (by decide) (by decide) (by decide) (by decide)
    rw [over_nil' oa.good] at e2
    rw [over_nil] at e3
    refine Ok.guard (by rw [List.length_map]; omega) (Ok.guard (ok_two _ _) (Ok.iteF (by rw [eq_two]; rfl) (Ok.guard (by rw [List.length_map]; omega) (Ok.bindE (noErr_ok e1) (Ok.guard (ok_eds _ _) (Ok.iteT (eq_eds _) ?_))))))
    refine Ok.bindE (noErr_ok (show m_over (a.map G) ([] : List Ed) = .ok ([] : List Ed) from e2)) (Ok.guard (ok_nil _) (Ok.iteT (by rw [eq_nil]; rfl) (Ok.bindE (noErr_ok (show m_over ([] : List Ed) (b.map G) = .ok ([] : List Ed) from e3)) (Ok.guard (ok_nil _) (Ok.pure (by rw [eq_nil]; rfl))))))
  obtain ⟨a, e, rfl⟩ := q
  exact e
end A

set_option Elab.async false
set_option linter.all false
set_option maxRecDepth 100000
set_option maxHeartbeats 4000000
namespace A
open PySem PySem.Spec PyProof.Rows L2 Y
open Y.Enc (enc)
theorem all_mk {l : PySem.W.OpenLaw} {w : World} {K : PySem.W.Frag} {h : Heap} {mg : Str → Option Value} {fa : Addr} (X : K.In h) (G : h.Ns mainGlobals mg) (hfa : mg "law" = some (.ref fa))
    {f_divisor : Addr} {od_divisor an_divisor : Option Addr} {sl_divisor : Array (Option Value)} {oc_divisor kV_divisor dc_divisor pm_divisor cd_divisor ct_divisor : Value}
    (a_divisor : PySem.W.nsIn K mainGlobals "divisor" = some (some (.ref f_divisor))) (l_divisor : K.lookup f_divisor = some ⟨oc_divisor, od_divisor, .func (PySem.W.fnOf "divisor" "divisor" (defArgs s_divisor) (defBody s_divisor) (defScope s_divisor) .none kV_divisor dc_divisor pm_divisor an_divisor cd_divisor ct_divisor), sl_divisor⟩) (c_divisor : PySem.W.codeIn K cd_divisor "divisor" = true) (k_divisor : PySem.W.keepIn K (.ref f_divisor) = true)
    {f_is_number : Addr} {od_is_number an_is_number : Option Addr} {sl_is_number : Array (Option Value)} {oc_is_number kV_is_number dc_is_number pm_is_number cd_is_number ct_is_number : Value}
    (a_is_number : PySem.W.nsIn K mainGlobals "is_number" = some (some (.ref f_is_number))) (l_is_number : K.lookup f_is_number = some ⟨oc_is_number, od_is_number, .func (PySem.W.fnOf "is_number" "is_number" (defArgs s_is_number) (defBody s_is_number) (defScope s_is_number) .none kV_is_number dc_is_number pm_is_number an_is_number cd_is_number ct_is_number), sl_is_number⟩) (c_is_number : PySem.W.codeIn K cd_is_number "is_number" = true) (k_is_number : PySem.W.keepIn K (.ref f_is_number) = true)
    {f_fraction : Addr} {od_fraction an_fraction : Option Addr} {sl_fraction : Array (Option Value)} {oc_fraction kV_fraction dc_fraction pm_fraction cd_fraction ct_fraction : Value} {T_fraction_ : Addr} {oT_fraction : Value} {dT_fraction : Option Addr} {nT_fraction : Nat} {sT_fraction : Array (Option Value)} {tk_fraction_bottom : Tok}
    (a_fraction : PySem.W.nsIn K mainGlobals "fraction" = some (some (.ref f_fraction))) (l_fraction : K.lookup f_fraction = some ⟨oc_fraction, od_fraction, .func (PySem.W.fnOf "fraction" "fraction" (defArgs s_fraction) (defBody s_fraction) (defScope s_fraction) (.ref T_fraction_) kV_fraction dc_fraction pm_fraction an_fraction cd_fraction ct_fraction), sl_fraction⟩) (c_fraction : PySem.W.codeIn K cd_fraction "fraction" = true) (k_fraction : PySem.W.keepIn K (.ref f_fraction) = true)
    (lT_fraction : K.lookup T_fraction_ = some ⟨oT_fraction, dT_fraction, .seq #[.int 1 tk_fraction_bottom] nT_fraction, sT_fraction⟩)
    {f_is_fraction : Addr} {od_is_fraction an_is_fraction : Option Addr} {sl_is_fraction : Array (Option Value)} {oc_is_fraction kV_is_fraction dc_is_fraction pm_is_fraction cd_is_fraction ct_is_fraction : Value}
    (a_is_fraction : PySem.W.nsIn K mainGlobals "is_fraction" = some (some (.ref f_is_fraction))) (l_is_fraction : K.lookup f_is_fraction = some ⟨oc_is_fraction, od_is_fraction, .func (PySem.W.fnOf "is_fraction" "is_fraction" (defArgs s_is_fraction) (defBody s_is_fraction) (defScope s_is_fraction) .none kV_is_fraction dc_is_fraction pm_is_fraction an_is_fraction cd_is_fraction ct_is_fraction), sl_is_fraction⟩) (c_is_fraction : PySem.W.codeIn K cd_is_fraction "is_fraction" = true) (k_is_fraction : PySem.W.keepIn K (.ref f_is_fraction) = true)
    {f_is_moment : Addr} {od_is_moment an_is_moment : Option Addr} {sl_is_moment : Array (Option Value)} {oc_is_moment kV_is_moment dc_is_moment pm_is_moment cd_is_moment ct_is_moment : Value}
    (a_is_moment : PySem.W.nsIn K mainGlobals "is_moment" = some (some (.ref f_is_moment))) (l_is_moment : K.lookup f_is_moment = some ⟨oc_is_moment, od_is_moment, .func (PySem.W.fnOf "is_moment" "is_moment" (defArgs s_is_moment) (defBody s_is_moment) (defScope s_is_moment) .none kV_is_moment dc_is_moment pm_is_moment an_is_moment cd_is_moment ct_is_moment), sl_is_moment⟩) (c_is_moment : PySem.W.codeIn K cd_is_moment "is_moment" = true) (k_is_moment : PySem.W.keepIn K (.ref f_is_moment) = true)
    {f_plus : Addr} {od_plus an_plus : Option Addr} {sl_plus : Array (Option Value)} {oc_plus kV_plus dc_plus pm_plus cd_plus ct_plus : Value}
    (a_plus : PySem.W.nsIn K mainGlobals "plus" = some (some (.ref f_plus))) (l_plus : K.lookup f_plus = some ⟨oc_plus, od_plus, .func (PySem.W.fnOf "plus" "plus" (defArgs s_plus) (defBody s_plus) (defScope s_plus) .none kV_plus dc_plus pm_plus an_plus cd_plus ct_plus), sl_plus⟩) (c_plus : PySem.W.codeIn K cd_plus "plus" = true) (k_plus : PySem.W.keepIn K (.ref f_plus) = true)
    {f_minus : Addr} {od_minus an_minus : Option Addr} {sl_minus : Array (Option Value)} {oc_minus kV_minus dc_minus pm_minus cd_minus ct_minus : Value}
    (a_minus : PySem.W.nsIn K mainGlobals "minus" = some (some (.ref f_minus))) (l_minus : K.lookup f_minus = some ⟨oc_minus, od_minus, .func (PySem.W.fnOf "minus" "minus" (defArgs s_minus) (defBody s_minus) (defScope s_minus) .none kV_minus dc_minus pm_minus an_minus cd_minus ct_minus), sl_minus⟩) (c_minus : PySem.W.codeIn K cd_minus "minus" = true) (k_minus : PySem.W.keepIn K (.ref f_minus) = true)
    {f_times : Addr} {od_times an_times : Option Addr} {sl_times : Array (Option Value)} {oc_times kV_times dc_times pm_times cd_times ct_times : Value}
    (a_times : PySem.W.nsIn K mainGlobals "times" = some (some (.ref f_times))) (l_times : K.lookup f_times = some ⟨oc_times, od_times, .func (PySem.W.fnOf "times" "times" (defArgs s_times) (defBody s_times) (defScope s_times) .none kV_times dc_times pm_times an_times cd_times ct_times), sl_times⟩) (c_times : PySem.W.codeIn K cd_times "times" = true) (k_times : PySem.W.keepIn K (.ref f_times) = true)
    {f_shared : Addr} {od_shared an_shared : Option Addr} {sl_shared : Array (Option Value)} {oc_shared kV_shared dc_shared pm_shared cd_shared ct_shared : Value}
    (a_shared : PySem.W.nsIn K mainGlobals "shared" = some (some (.ref f_shared))) (l_shared : K.lookup f_shared = some ⟨oc_shared, od_shared, .func (PySem.W.fnOf "shared" "shared" (defArgs s_shared) (defBody s_shared) (defScope s_shared) .none kV_shared dc_shared pm_shared an_shared cd_shared ct_shared), sl_shared⟩) (c_shared : PySem.W.codeIn K cd_shared "shared" = true) (k_shared : PySem.W.keepIn K (.ref f_shared) = true)
    {f_less : Addr} {od_less an_less : Option Addr} {sl_less : Array (Option Value)} {oc_less kV_less dc_less pm_less cd_less ct_less : Value}
    (a_less : PySem.W.nsIn K mainGlobals "less" = some (some (.ref f_less))) (l_less : K.lookup f_less = some ⟨oc_less, od_less, .func (PySem.W.fnOf "less" "less" (defArgs s_less) (defBody s_less) (defScope s_less) .none kV_less dc_less pm_less an_less cd_less ct_less), sl_less⟩) (c_less : PySem.W.codeIn K cd_less "less" = true) (k_less : PySem.W.keepIn K (.ref f_less) = true)
    {f_sooner_of : Addr} {od_sooner_of an_sooner_of : Option Addr} {sl_sooner_of : Array (Option Value)} {oc_sooner_of kV_sooner_of dc_sooner_of pm_sooner_of cd_sooner_of ct_sooner_of : Value}
    (a_sooner_of : PySem.W.nsIn K mainGlobals "sooner_of" = some (some (.ref f_sooner_of))) (l_sooner_of : K.lookup f_sooner_of = some ⟨oc_sooner_of, od_sooner_of, .func (PySem.W.fnOf "sooner_of" "sooner_of" (defArgs s_sooner_of) (defBody s_sooner_of) (defScope s_sooner_of) .none kV_sooner_of dc_sooner_of pm_sooner_of an_sooner_of cd_sooner_of ct_sooner_of), sl_sooner_of⟩) (c_sooner_of : PySem.W.codeIn K cd_sooner_of "sooner_of" = true) (k_sooner_of : PySem.W.keepIn K (.ref f_sooner_of) = true)
    {f_later_of : Addr} {od_later_of an_later_of : Option Addr} {sl_later_of : Array (Option Value)} {oc_later_of kV_later_of dc_later_of pm_later_of cd_later_of ct_later_of : Value}
    (a_later_of : PySem.W.nsIn K mainGlobals "later_of" = some (some (.ref f_later_of))) (l_later_of : K.lookup f_later_of = some ⟨oc_later_of, od_later_of, .func (PySem.W.fnOf "later_of" "later_of" (defArgs s_later_of) (defBody s_later_of) (defScope s_later_of) .none kV_later_of dc_later_of pm_later_of an_later_of cd_later_of ct_later_of), sl_later_of⟩) (c_later_of : PySem.W.codeIn K cd_later_of "later_of" = true) (k_later_of : PySem.W.keepIn K (.ref f_later_of) = true)
    {f_is_edit : Addr} {od_is_edit an_is_edit : Option Addr} {sl_is_edit : Array (Option Value)} {oc_is_edit kV_is_edit dc_is_edit pm_is_edit cd_is_edit ct_is_edit : Value}
    (a_is_edit : PySem.W.nsIn K mainGlobals "is_edit" = some (some (.ref f_is_edit))) (l_is_edit : K.lookup f_is_edit = some ⟨oc_is_edit, od_is_edit, .func (PySem.W.fnOf "is_edit" "is_edit" (defArgs s_is_edit) (defBody s_is_edit) (defScope s_is_edit) .none kV_is_edit dc_is_edit pm_is_edit an_is_edit cd_is_edit ct_is_edit), sl_is_edit⟩) (c_is_edit : PySem.W.codeIn K cd_is_edit "is_edit" = true) (k_is_edit : PySem.W.keepIn K (.ref f_is_edit) = true)
    {f_is_edits : Addr} {od_is_edits an_is_edits : Option Addr} {sl_is_edits : Array (Option Value)} {oc_is_edits kV_is_edits dc_is_edits pm_is_edits cd_is_edits ct_is_edits : Value}
    (a_is_edits : PySem.W.nsIn K mainGlobals "is_edits" = some (some (.ref f_is_edits))) (l_is_edits : K.lookup f_is_edits = some ⟨oc_is_edits, od_is_edits, .func (PySem.W.fnOf "is_edits" "is_edits" (defArgs s_is_edits) (defBody s_is_edits) (defScope s_is_edits) .none kV_is_edits dc_is_edits pm_is_edits an_is_edits cd_is_edits ct_is_edits), sl_is_edits⟩) (c_is_edits : PySem.W.codeIn K cd_is_edits "is_edits" = true) (k_is_edits : PySem.W.keepIn K (.ref f_is_edits) = true)
    {f_sure_edits : Addr} {od_sure_edits an_sure_edits : Option Addr} {sl_sure_edits : Array (Option Value)} {oc_sure_edits kV_sure_edits dc_sure_edits pm_sure_edits cd_sure_edits ct_sure_edits : Value}
    (a_sure_edits : PySem.W.nsIn K mainGlobals "sure_edits" = some (some (.ref f_sure_edits))) (l_sure_edits : K.lookup f_sure_edits = some ⟨oc_sure_edits, od_sure_edits, .func (PySem.W.fnOf "sure_edits" "sure_edits" (defArgs s_sure_edits) (defBody s_sure_edits) (defScope s_sure_edits) .none kV_sure_edits dc_sure_edits pm_sure_edits an_sure_edits cd_sure_edits ct_sure_edits), sl_sure_edits⟩) (c_sure_edits : PySem.W.codeIn K cd_sure_edits "sure_edits" = true) (k_sure_edits : PySem.W.keepIn K (.ref f_sure_edits) = true)
    {f_sure_moment : Addr} {od_sure_moment an_sure_moment : Option Addr} {sl_sure_moment : Array (Option Value)} {oc_sure_moment kV_sure_moment dc_sure_moment pm_sure_moment cd_sure_moment ct_sure_moment : Value}
    (a_sure_moment : PySem.W.nsIn K mainGlobals "sure_moment" = some (some (.ref f_sure_moment))) (l_sure_moment : K.lookup f_sure_moment = some ⟨oc_sure_moment, od_sure_moment, .func (PySem.W.fnOf "sure_moment" "sure_moment" (defArgs s_sure_moment) (defBody s_sure_moment) (defScope s_sure_moment) .none kV_sure_moment dc_sure_moment pm_sure_moment an_sure_moment cd_sure_moment ct_sure_moment), sl_sure_moment⟩) (c_sure_moment : PySem.W.codeIn K cd_sure_moment "sure_moment" = true) (k_sure_moment : PySem.W.keepIn K (.ref f_sure_moment) = true)
    {f_led_by : Addr} {od_led_by an_led_by : Option Addr} {sl_led_by : Array (Option Value)} {oc_led_by kV_led_by dc_led_by pm_led_by cd_led_by ct_led_by : Value}
    (a_led_by : PySem.W.nsIn K mainGlobals "led_by" = some (some (.ref f_led_by))) (l_led_by : K.lookup f_led_by = some ⟨oc_led_by, od_led_by, .func (PySem.W.fnOf "led_by" "led_by" (defArgs s_led_by) (defBody s_led_by) (defScope s_led_by) .none kV_led_by dc_led_by pm_led_by an_led_by cd_led_by ct_led_by), sl_led_by⟩) (c_led_by : PySem.W.codeIn K cd_led_by "led_by" = true) (k_led_by : PySem.W.keepIn K (.ref f_led_by) = true)
    {f_mapped : Addr} {od_mapped an_mapped : Option Addr} {sl_mapped : Array (Option Value)} {oc_mapped kV_mapped dc_mapped pm_mapped cd_mapped ct_mapped : Value}
    (a_mapped : PySem.W.nsIn K mainGlobals "mapped" = some (some (.ref f_mapped))) (l_mapped : K.lookup f_mapped = some ⟨oc_mapped, od_mapped, .func (PySem.W.fnOf "mapped" "mapped" (defArgs s_mapped) (defBody s_mapped) (defScope s_mapped) .none kV_mapped dc_mapped pm_mapped an_mapped cd_mapped ct_mapped), sl_mapped⟩) (c_mapped : PySem.W.codeIn K cd_mapped "mapped" = true) (k_mapped : PySem.W.keepIn K (.ref f_mapped) = true)
    {f_goes_on : Addr} {od_goes_on an_goes_on : Option Addr} {sl_goes_on : Array (Option Value)} {oc_goes_on kV_goes_on dc_goes_on pm_goes_on cd_goes_on ct_goes_on : Value}
    (a_goes_on : PySem.W.nsIn K mainGlobals "goes_on" = some (some (.ref f_goes_on))) (l_goes_on : K.lookup f_goes_on = some ⟨oc_goes_on, od_goes_on, .func (PySem.W.fnOf "goes_on" "goes_on" (defArgs s_goes_on) (defBody s_goes_on) (defScope s_goes_on) .none kV_goes_on dc_goes_on pm_goes_on an_goes_on cd_goes_on ct_goes_on), sl_goes_on⟩) (c_goes_on : PySem.W.codeIn K cd_goes_on "goes_on" = true) (k_goes_on : PySem.W.keepIn K (.ref f_goes_on) = true)
    {f_tidy : Addr} {od_tidy an_tidy : Option Addr} {sl_tidy : Array (Option Value)} {oc_tidy kV_tidy dc_tidy pm_tidy cd_tidy ct_tidy : Value}
    (a_tidy : PySem.W.nsIn K mainGlobals "tidy" = some (some (.ref f_tidy))) (l_tidy : K.lookup f_tidy = some ⟨oc_tidy, od_tidy, .func (PySem.W.fnOf "tidy" "tidy" (defArgs s_tidy) (defBody s_tidy) (defScope s_tidy) .none kV_tidy dc_tidy pm_tidy an_tidy cd_tidy ct_tidy), sl_tidy⟩) (c_tidy : PySem.W.codeIn K cd_tidy "tidy" = true) (k_tidy : PySem.W.keepIn K (.ref f_tidy) = true)
    {f_pieces_within : Addr} {od_pieces_within an_pieces_within : Option Addr} {sl_pieces_within : Array (Option Value)} {oc_pieces_within kV_pieces_within dc_pieces_within pm_pieces_within cd_pieces_within ct_pieces_within : Value}
    (a_pieces_within : PySem.W.nsIn K mainGlobals "pieces_within" = some (some (.ref f_pieces_within))) (l_pieces_within : K.lookup f_pieces_within = some ⟨oc_pieces_within, od_pieces_within, .func (PySem.W.fnOf "pieces_within" "pieces_within" (defArgs s_pieces_within) (defBody s_pieces_within) (defScope s_pieces_within) .none kV_pieces_within dc_pieces_within pm_pieces_within an_pieces_within cd_pieces_within ct_pieces_within), sl_pieces_within⟩) (c_pieces_within : PySem.W.codeIn K cd_pieces_within "pieces_within" = true) (k_pieces_within : PySem.W.keepIn K (.ref f_pieces_within) = true)
    {f_led_through : Addr} {od_led_through an_led_through : Option Addr} {sl_led_through : Array (Option Value)} {oc_led_through kV_led_through dc_led_through pm_led_through cd_led_through ct_led_through : Value}
    (a_led_through : PySem.W.nsIn K mainGlobals "led_through" = some (some (.ref f_led_through))) (l_led_through : K.lookup f_led_through = some ⟨oc_led_through, od_led_through, .func (PySem.W.fnOf "led_through" "led_through" (defArgs s_led_through) (defBody s_led_through) (defScope s_led_through) .none kV_led_through dc_led_through pm_led_through an_led_through cd_led_through ct_led_through), sl_led_through⟩) (c_led_through : PySem.W.codeIn K cd_led_through "led_through" = true) (k_led_through : PySem.W.keepIn K (.ref f_led_through) = true)
    {f_over : Addr} {od_over an_over : Option Addr} {sl_over : Array (Option Value)} {oc_over kV_over dc_over pm_over cd_over ct_over : Value}
    (a_over : PySem.W.nsIn K mainGlobals "over" = some (some (.ref f_over))) (l_over : K.lookup f_over = some ⟨oc_over, od_over, .func (PySem.W.fnOf "over" "over" (defArgs s_over) (defBody s_over) (defScope s_over) .none kV_over dc_over pm_over an_over cd_over ct_over), sl_over⟩) (c_over : PySem.W.codeIn K cd_over "over" = true) (k_over : PySem.W.keepIn K (.ref f_over) = true)
    {f__law_cell_at : Addr} {od__law_cell_at an__law_cell_at : Option Addr} {sl__law_cell_at : Array (Option Value)} {oc__law_cell_at kV__law_cell_at dc__law_cell_at pm__law_cell_at cd__law_cell_at ct__law_cell_at : Value}
    (a__law_cell_at : PySem.W.nsIn K mainGlobals "_law_cell_at" = some (some (.ref f__law_cell_at))) (l__law_cell_at : K.lookup f__law_cell_at = some ⟨oc__law_cell_at, od__law_cell_at, .func (PySem.W.fnOf "_law_cell_at" "_law_cell_at" (defArgs s__law_cell_at) (defBody s__law_cell_at) (defScope s__law_cell_at) .none kV__law_cell_at dc__law_cell_at pm__law_cell_at an__law_cell_at cd__law_cell_at ct__law_cell_at), sl__law_cell_at⟩) (c__law_cell_at : PySem.W.codeIn K cd__law_cell_at "_law_cell_at" = true) (k__law_cell_at : PySem.W.keepIn K (.ref f__law_cell_at) = true)
    {f__law_digit : Addr} {od__law_digit an__law_digit : Option Addr} {sl__law_digit : Array (Option Value)} {oc__law_digit kV__law_digit dc__law_digit pm__law_digit cd__law_digit ct__law_digit : Value}
    (a__law_digit : PySem.W.nsIn K mainGlobals "_law_digit" = some (some (.ref f__law_digit))) (l__law_digit : K.lookup f__law_digit = some ⟨oc__law_digit, od__law_digit, .func (PySem.W.fnOf "_law_digit" "_law_digit" (defArgs s__law_digit) (defBody s__law_digit) (defScope s__law_digit) .none kV__law_digit dc__law_digit pm__law_digit an__law_digit cd__law_digit ct__law_digit), sl__law_digit⟩) (c__law_digit : PySem.W.codeIn K cd__law_digit "_law_digit" = true) (k__law_digit : PySem.W.keepIn K (.ref f__law_digit) = true)
    {f__law_shared : Addr} {od__law_shared an__law_shared : Option Addr} {sl__law_shared : Array (Option Value)} {oc__law_shared kV__law_shared dc__law_shared pm__law_shared cd__law_shared ct__law_shared : Value}
    (a__law_shared : PySem.W.nsIn K mainGlobals "_law_shared" = some (some (.ref f__law_shared))) (l__law_shared : K.lookup f__law_shared = some ⟨oc__law_shared, od__law_shared, .func (PySem.W.fnOf "_law_shared" "_law_shared" (defArgs s__law_shared) (defBody s__law_shared) (defScope s__law_shared) .none kV__law_shared dc__law_shared pm__law_shared an__law_shared cd__law_shared ct__law_shared), sl__law_shared⟩) (c__law_shared : PySem.W.codeIn K cd__law_shared "_law_shared" = true) (k__law_shared : PySem.W.keepIn K (.ref f__law_shared) = true)
    {f__law_lowest : Addr} {od__law_lowest an__law_lowest : Option Addr} {sl__law_lowest : Array (Option Value)} {oc__law_lowest kV__law_lowest dc__law_lowest pm__law_lowest cd__law_lowest ct__law_lowest : Value}
    (a__law_lowest : PySem.W.nsIn K mainGlobals "_law_lowest" = some (some (.ref f__law_lowest))) (l__law_lowest : K.lookup f__law_lowest = some ⟨oc__law_lowest, od__law_lowest, .func (PySem.W.fnOf "_law_lowest" "_law_lowest" (defArgs s__law_lowest) (defBody s__law_lowest) (defScope s__law_lowest) .none kV__law_lowest dc__law_lowest pm__law_lowest an__law_lowest cd__law_lowest ct__law_lowest), sl__law_lowest⟩) (c__law_lowest : PySem.W.codeIn K cd__law_lowest "_law_lowest" = true) (k__law_lowest : PySem.W.keepIn K (.ref f__law_lowest) = true)
    {f__law_plus : Addr} {od__law_plus an__law_plus : Option Addr} {sl__law_plus : Array (Option Value)} {oc__law_plus kV__law_plus dc__law_plus pm__law_plus cd__law_plus ct__law_plus : Value}
    (a__law_plus : PySem.W.nsIn K mainGlobals "_law_plus" = some (some (.ref f__law_plus))) (l__law_plus : K.lookup f__law_plus = some ⟨oc__law_plus, od__law_plus, .func (PySem.W.fnOf "_law_plus" "_law_plus" (defArgs s__law_plus) (defBody s__law_plus) (defScope s__law_plus) .none kV__law_plus dc__law_plus pm__law_plus an__law_plus cd__law_plus ct__law_plus), sl__law_plus⟩) (c__law_plus : PySem.W.codeIn K cd__law_plus "_law_plus" = true) (k__law_plus : PySem.W.keepIn K (.ref f__law_plus) = true)
    {f__law_minus : Addr} {od__law_minus an__law_minus : Option Addr} {sl__law_minus : Array (Option Value)} {oc__law_minus kV__law_minus dc__law_minus pm__law_minus cd__law_minus ct__law_minus : Value}
    (a__law_minus : PySem.W.nsIn K mainGlobals "_law_minus" = some (some (.ref f__law_minus))) (l__law_minus : K.lookup f__law_minus = some ⟨oc__law_minus, od__law_minus, .func (PySem.W.fnOf "_law_minus" "_law_minus" (defArgs s__law_minus) (defBody s__law_minus) (defScope s__law_minus) .none kV__law_minus dc__law_minus pm__law_minus an__law_minus cd__law_minus ct__law_minus), sl__law_minus⟩) (c__law_minus : PySem.W.codeIn K cd__law_minus "_law_minus" = true) (k__law_minus : PySem.W.keepIn K (.ref f__law_minus) = true)
    {f__law_times : Addr} {od__law_times an__law_times : Option Addr} {sl__law_times : Array (Option Value)} {oc__law_times kV__law_times dc__law_times pm__law_times cd__law_times ct__law_times : Value}
    (a__law_times : PySem.W.nsIn K mainGlobals "_law_times" = some (some (.ref f__law_times))) (l__law_times : K.lookup f__law_times = some ⟨oc__law_times, od__law_times, .func (PySem.W.fnOf "_law_times" "_law_times" (defArgs s__law_times) (defBody s__law_times) (defScope s__law_times) .none kV__law_times dc__law_times pm__law_times an__law_times cd__law_times ct__law_times), sl__law_times⟩) (c__law_times : PySem.W.codeIn K cd__law_times "_law_times" = true) (k__law_times : PySem.W.keepIn K (.ref f__law_times) = true)
    {f__law_less : Addr} {od__law_less an__law_less : Option Addr} {sl__law_less : Array (Option Value)} {oc__law_less kV__law_less dc__law_less pm__law_less cd__law_less ct__law_less : Value}
    (a__law_less : PySem.W.nsIn K mainGlobals "_law_less" = some (some (.ref f__law_less))) (l__law_less : K.lookup f__law_less = some ⟨oc__law_less, od__law_less, .func (PySem.W.fnOf "_law_less" "_law_less" (defArgs s__law_less) (defBody s__law_less) (defScope s__law_less) .none kV__law_less dc__law_less pm__law_less an__law_less cd__law_less ct__law_less), sl__law_less⟩) (c__law_less : PySem.W.codeIn K cd__law_less "_law_less" = true) (k__law_less : PySem.W.keepIn K (.ref f__law_less) = true)
    {f__law_amount : Addr} {od__law_amount an__law_amount : Option Addr} {sl__law_amount : Array (Option Value)} {oc__law_amount kV__law_amount dc__law_amount pm__law_amount cd__law_amount ct__law_amount : Value}
    (a__law_amount : PySem.W.nsIn K mainGlobals "_law_amount" = some (some (.ref f__law_amount))) (l__law_amount : K.lookup f__law_amount = some ⟨oc__law_amount, od__law_amount, .func (PySem.W.fnOf "_law_amount" "_law_amount" (defArgs s__law_amount) (defBody s__law_amount) (defScope s__law_amount) .none kV__law_amount dc__law_amount pm__law_amount an__law_amount cd__law_amount ct__law_amount), sl__law_amount⟩) (c__law_amount : PySem.W.codeIn K cd__law_amount "_law_amount" = true) (k__law_amount : PySem.W.keepIn K (.ref f__law_amount) = true)
    {f__law_edit : Addr} {od__law_edit an__law_edit : Option Addr} {sl__law_edit : Array (Option Value)} {oc__law_edit kV__law_edit dc__law_edit pm__law_edit cd__law_edit ct__law_edit : Value}
    (a__law_edit : PySem.W.nsIn K mainGlobals "_law_edit" = some (some (.ref f__law_edit))) (l__law_edit : K.lookup f__law_edit = some ⟨oc__law_edit, od__law_edit, .func (PySem.W.fnOf "_law_edit" "_law_edit" (defArgs s__law_edit) (defBody s__law_edit) (defScope s__law_edit) .none kV__law_edit dc__law_edit pm__law_edit an__law_edit cd__law_edit ct__law_edit), sl__law_edit⟩) (c__law_edit : PySem.W.codeIn K cd__law_edit "_law_edit" = true) (k__law_edit : PySem.W.keepIn K (.ref f__law_edit) = true)
    {f__law_edits : Addr} {od__law_edits an__law_edits : Option Addr} {sl__law_edits : Array (Option Value)} {oc__law_edits kV__law_edits dc__law_edits pm__law_edits cd__law_edits ct__law_edits : Value}
    (a__law_edits : PySem.W.nsIn K mainGlobals "_law_edits" = some (some (.ref f__law_edits))) (l__law_edits : K.lookup f__law_edits = some ⟨oc__law_edits, od__law_edits, .func (PySem.W.fnOf "_law_edits" "_law_edits" (defArgs s__law_edits) (defBody s__law_edits) (defScope s__law_edits) .none kV__law_edits dc__law_edits pm__law_edits an__law_edits cd__law_edits ct__law_edits), sl__law_edits⟩) (c__law_edits : PySem.W.codeIn K cd__law_edits "_law_edits" = true) (k__law_edits : PySem.W.keepIn K (.ref f__law_edits) = true)
    {f__law_led : Addr} {od__law_led an__law_led : Option Addr} {sl__law_led : Array (Option Value)} {oc__law_led kV__law_led dc__law_led pm__law_led cd__law_led ct__law_led : Value}
    (a__law_led : PySem.W.nsIn K mainGlobals "_law_led" = some (some (.ref f__law_led))) (l__law_led : K.lookup f__law_led = some ⟨oc__law_led, od__law_led, .func (PySem.W.fnOf "_law_led" "_law_led" (defArgs s__law_led) (defBody s__law_led) (defScope s__law_led) .none kV__law_led dc__law_led pm__law_led an__law_led cd__law_led ct__law_led), sl__law_led⟩) (c__law_led : PySem.W.codeIn K cd__law_led "_law_led" = true) (k__law_led : PySem.W.keepIn K (.ref f__law_led) = true)
    {f__law_is_tidy : Addr} {od__law_is_tidy an__law_is_tidy : Option Addr} {sl__law_is_tidy : Array (Option Value)} {oc__law_is_tidy kV__law_is_tidy dc__law_is_tidy pm__law_is_tidy cd__law_is_tidy ct__law_is_tidy : Value}
    (a__law_is_tidy : PySem.W.nsIn K mainGlobals "_law_is_tidy" = some (some (.ref f__law_is_tidy))) (l__law_is_tidy : K.lookup f__law_is_tidy = some ⟨oc__law_is_tidy, od__law_is_tidy, .func (PySem.W.fnOf "_law_is_tidy" "_law_is_tidy" (defArgs s__law_is_tidy) (defBody s__law_is_tidy) (defScope s__law_is_tidy) .none kV__law_is_tidy dc__law_is_tidy pm__law_is_tidy an__law_is_tidy cd__law_is_tidy ct__law_is_tidy), sl__law_is_tidy⟩) (c__law_is_tidy : PySem.W.codeIn K cd__law_is_tidy "_law_is_tidy" = true) (k__law_is_tidy : PySem.W.keepIn K (.ref f__law_is_tidy) = true)
    {f__law_met : Addr} {od__law_met an__law_met : Option Addr} {sl__law_met : Array (Option Value)} {oc__law_met kV__law_met dc__law_met pm__law_met cd__law_met ct__law_met : Value}
    (a__law_met : PySem.W.nsIn K mainGlobals "_law_met" = some (some (.ref f__law_met))) (l__law_met : K.lookup f__law_met = some ⟨oc__law_met, od__law_met, .func (PySem.W.fnOf "_law_met" "_law_met" (defArgs s__law_met) (defBody s__law_met) (defScope s__law_met) .none kV__law_met dc__law_met pm__law_met an__law_met cd__law_met ct__law_met), sl__law_met⟩) (c__law_met : PySem.W.codeIn K cd__law_met "_law_met" = true) (k__law_met : PySem.W.keepIn K (.ref f__law_met) = true)
    {f__law_moments : Addr} {od__law_moments an__law_moments : Option Addr} {sl__law_moments : Array (Option Value)} {oc__law_moments kV__law_moments dc__law_moments pm__law_moments cd__law_moments ct__law_moments : Value}
    (a__law_moments : PySem.W.nsIn K mainGlobals "_law_moments" = some (some (.ref f__law_moments))) (l__law_moments : K.lookup f__law_moments = some ⟨oc__law_moments, od__law_moments, .func (PySem.W.fnOf "_law_moments" "_law_moments" (defArgs s__law_moments) (defBody s__law_moments) (defScope s__law_moments) .none kV__law_moments dc__law_moments pm__law_moments an__law_moments cd__law_moments ct__law_moments), sl__law_moments⟩) (c__law_moments : PySem.W.codeIn K cd__law_moments "_law_moments" = true) (k__law_moments : PySem.W.keepIn K (.ref f__law_moments) = true)
    {f__law_through : Addr} {od__law_through an__law_through : Option Addr} {sl__law_through : Array (Option Value)} {oc__law_through kV__law_through dc__law_through pm__law_through cd__law_through ct__law_through : Value}
    (a__law_through : PySem.W.nsIn K mainGlobals "_law_through" = some (some (.ref f__law_through))) (l__law_through : K.lookup f__law_through = some ⟨oc__law_through, od__law_through, .func (PySem.W.fnOf "_law_through" "_law_through" (defArgs s__law_through) (defBody s__law_through) (defScope s__law_through) .none kV__law_through dc__law_through pm__law_through an__law_through cd__law_through ct__law_through), sl__law_through⟩) (c__law_through : PySem.W.codeIn K cd__law_through "_law_through" = true) (k__law_through : PySem.W.keepIn K (.ref f__law_through) = true)
    {f_law : Addr} {od_law an_law : Option Addr} {sl_law : Array (Option Value)} {oc_law kV_law dc_law pm_law cd_law ct_law : Value}
    (a_law : PySem.W.nsIn K mainGlobals "law" = some (some (.ref f_law))) (l_law : K.lookup f_law = some ⟨oc_law, od_law, .func (PySem.W.fnOf "law" "law" (defArgs s_law) (defBody s_law) (defScope s_law) .none kV_law dc_law pm_law an_law cd_law ct_law), sl_law⟩) (c_law : PySem.W.codeIn K cd_law "law" = true) (k_law : PySem.W.keepIn K (.ref f_law) = true)
    {C_NoFraction : Addr}
    (xca_NoFraction : PySem.W.nsIn K mainGlobals "NoFraction" = some (some (.ref C_NoFraction)))
    (xchg_NoFraction : PySem.W.findIn K (.ref C_NoFraction) "__getattribute__" = some (some (.builtin "BaseException.__getattribute__")))
    (xchk_NoFraction : PySem.W.findIn K (.ref C_NoFraction) "__getattr__" = some none)
    (xchs_NoFraction : PySem.W.subIn K (.ref C_NoFraction) (.type "BaseException") = some true)
    (xchd_NoFraction : PySem.W.hasDictIn K C_NoFraction = true)
    (xcha_NoFraction : PySem.W.findIn K (.ref C_NoFraction) "__class__" = some (some (.builtin "object.__class__")))
    (xchm_NoFraction : PySem.W.mroIn K C_NoFraction (.type "object") = some true)
    (xcty_NoFraction : PySem.W.typeIn K (.ref C_NoFraction) = some (.type "type"))
    (xckp_NoFraction : PySem.W.keepIn K (.ref C_NoFraction) = true)
    (xcve_NoFraction : PySem.W.subIn K (.ref C_NoFraction) (.type "ValueError") = some true)
    (xcis_NoFraction : PySem.W.isClsIn K C_NoFraction = true)
    (xcself_NoFraction : PySem.W.subIn K (.ref C_NoFraction) (.ref C_NoFraction) = some true)
    (xcex_NoFraction : PySem.W.excIn K C_NoFraction [.type "ValueError", .type "Exception", .type "BaseException", .type "object"] "ValueError.__new__" = true)
    {C_NoEdits : Addr}
    (xca_NoEdits : PySem.W.nsIn K mainGlobals "NoEdits" = some (some (.ref C_NoEdits)))
    (xchg_NoEdits : PySem.W.findIn K (.ref C_NoEdits) "__getattribute__" = some (some (.builtin "BaseException.__getattribute__")))
    (xchk_NoEdits : PySem.W.findIn K (.ref C_NoEdits) "__getattr__" = some none)
    (xchs_NoEdits : PySem.W.subIn K (.ref C_NoEdits) (.type "BaseException") = some true)
    (xchd_NoEdits : PySem.W.hasDictIn K C_NoEdits = true)
    (xcha_NoEdits : PySem.W.findIn K (.ref C_NoEdits) "__class__" = some (some (.builtin "object.__class__")))
    (xchm_NoEdits : PySem.W.mroIn K C_NoEdits (.type "object") = some true)
    (xcty_NoEdits : PySem.W.typeIn K (.ref C_NoEdits) = some (.type "type"))
    (xckp_NoEdits : PySem.W.keepIn K (.ref C_NoEdits) = true)
    (xcve_NoEdits : PySem.W.subIn K (.ref C_NoEdits) (.type "ValueError") = some true)
    (xcis_NoEdits : PySem.W.isClsIn K C_NoEdits = true)
    (xcself_NoEdits : PySem.W.subIn K (.ref C_NoEdits) (.ref C_NoEdits) = some true)
    (xcex_NoEdits : PySem.W.excIn K C_NoEdits [.type "ValueError", .type "Exception", .type "BaseException", .type "object"] "ValueError.__new__" = true)
    {C_NoMoment : Addr}
    (xca_NoMoment : PySem.W.nsIn K mainGlobals "NoMoment" = some (some (.ref C_NoMoment)))
    (xchg_NoMoment : PySem.W.findIn K (.ref C_NoMoment) "__getattribute__" = some (some (.builtin "BaseException.__getattribute__")))
    (xchk_NoMoment : PySem.W.findIn K (.ref C_NoMoment) "__getattr__" = some none)
    (xchs_NoMoment : PySem.W.subIn K (.ref C_NoMoment) (.type "BaseException") = some true)
    (xchd_NoMoment : PySem.W.hasDictIn K C_NoMoment = true)
    (xcha_NoMoment : PySem.W.findIn K (.ref C_NoMoment) "__class__" = some (some (.builtin "object.__class__")))
    (xchm_NoMoment : PySem.W.mroIn K C_NoMoment (.type "object") = some true)
    (xcty_NoMoment : PySem.W.typeIn K (.ref C_NoMoment) = some (.type "type"))
    (xckp_NoMoment : PySem.W.keepIn K (.ref C_NoMoment) = true)
    (xcve_NoMoment : PySem.W.subIn K (.ref C_NoMoment) (.type "ValueError") = some true)
    (xcis_NoMoment : PySem.W.isClsIn K C_NoMoment = true)
    (xcself_NoMoment : PySem.W.subIn K (.ref C_NoMoment) (.ref C_NoMoment) = some true)
    (xcex_NoMoment : PySem.W.excIn K C_NoMoment [.type "ValueError", .type "Exception", .type "BaseException", .type "object"] "ValueError.__new__" = true)
    {C_NOUGHT : Addr} {dC_NOUGHT : Option Addr} {nC_NOUGHT : Nat} {sC_NOUGHT : Array (Option Value)} {tk_NOUGHT_0 tk_NOUGHT_1 : Tok}
    (cg_NOUGHT : PySem.W.nsIn K mainGlobals "NOUGHT" = some (some (.ref C_NOUGHT))) (cl_NOUGHT : K.lookup C_NOUGHT = some ⟨.type "tuple", dC_NOUGHT, .seq #[.int 0 tk_NOUGHT_0, .int 1 tk_NOUGHT_1] nC_NOUGHT, sC_NOUGHT⟩)
    (xhn : PySem.W.specialIn K (.builtin "object.__class__") "__get__" = some (some (.builtin "getset_descriptor.__get__"))) (xht : PySem.W.takesIn K (.builtin "object.__class__") = some true)
    (z_abs : PySem.W.nsIn K mainGlobals "abs" = some none)
    (z_isinstance : PySem.W.nsIn K mainGlobals "isinstance" = some none)
    (z_int : PySem.W.nsIn K mainGlobals "int" = some none)
    (z_bool : PySem.W.nsIn K mainGlobals "bool" = some none)
    (z_tuple : PySem.W.nsIn K mainGlobals "tuple" = some none)
    (z_len : PySem.W.nsIn K mainGlobals "len" = some none)
    (z_list : PySem.W.nsIn K mainGlobals "list" = some none)
    (z_all : PySem.W.nsIn K mainGlobals "all" = some none)
    (z_range : PySem.W.nsIn K mainGlobals "range" = some none)
    : ∃ fd : FuncData, (∀ (s : Shared) (v : Value), BindsTo s fd ⟨[v], []⟩ [("_law_script", v)]) ∧ ∀ base : Heap, K.In base → base.Ns mainGlobals mg → FnOk l.prog w K mg base CX0 10 fa fd ["_law_script"] (spTop K) := by
  have e := hfa.symm.trans (PySem.W.mg_of X G a_law)
  cases e
  have F_divisor := fun_mk (st := s_divisor) l_divisor c_divisor k_divisor
  have b_divisor := F_divisor.binds (ps := ["one", "other"]) fun _ _ _ _ _ _ us hl => match us, hl with | [_, _], _ => rfl
  have g_divisor := PySem.W.mg_of X G a_divisor
  have F_is_number := fun_mk (st := s_is_number) l_is_number c_is_number k_is_number
  have b_is_number := F_is_number.binds (ps := ["thing"]) fun _ _ _ _ _ _ us hl => match us, hl with | [_], _ => rfl
  have g_is_number := PySem.W.mg_of X G a_is_number
  have F_fraction := funV_mk (st := s_fraction) (dv := [.int 1 tk_fraction_bottom]) l_fraction c_fraction k_fraction lT_fraction
  have b_fraction := (F_fraction.binds (ps := ["top", "bottom"]) 2 1 rfl (fun _ _ _ _ _ _ _ us hl => match us, hl with | [_, _], _ => ⟨_, rfl, rfl⟩) : L2.Binds K _ ["top", "bottom"] [])
  have g_fraction := PySem.W.mg_of X G a_fraction
  have F_is_fraction := fun_mk (st := s_is_fraction) l_is_fraction c_is_fraction k_is_fraction
  have b_is_fraction := F_is_fraction.binds (ps := ["thing"]) fun _ _ _ _ _ _ us hl => match us, hl with | [_], _ => rfl
  have g_is_fraction := PySem.W.mg_of X G a_is_fraction
  have F_is_moment := fun_mk (st := s_is_moment) l_is_moment c_is_moment k_is_moment
  have b_is_moment := F_is_moment.binds (ps := ["thing"]) fun _ _ _ _ _ _ us hl => match us, hl with | [_], _ => rfl
  have g_is_moment := PySem.W.mg_of X G a_is_moment
  have F_plus := fun_mk (st := s_plus) l_plus c_plus k_plus
  have b_plus := F_plus.binds (ps := ["one", "other"]) fun _ _ _ _ _ _ us hl => match us, hl with | [_, _], _ => rfl
  have g_plus := PySem.W.mg_of X G a_plus
  have F_minus := fun_mk (st := s_minus) l_minus c_minus k_minus
  have b_minus := F_minus.binds (ps := ["one", "other"]) fun _ _ _ _ _ _ us hl => match us, hl with | [_, _], _ => rfl
  have g_minus := PySem.W.mg_of X G a_minus
  have F_times := fun_mk (st := s_times) l_times c_times k_times
  have b_times := F_times.binds (ps := ["one", "other"]) fun _ _ _ _ _ _ us hl => match us, hl with | [_, _], _ => rfl
  have g_times := PySem.W.mg_of X G a_times
  have F_shared := fun_mk (st := s_shared) l_shared c_shared k_shared
  have b_shared := F_shared.binds (ps := ["one", "other"]) fun _ _ _ _ _ _ us hl => match us, hl with | [_, _], _ => rfl
  have g_shared := PySem.W.mg_of X G a_shared
  have F_less := fun_mk (st := s_less) l_less c_less k_less
  have b_less := F_less.binds (ps := ["one", "other"]) fun _ _ _ _ _ _ us hl => match us, hl with | [_, _], _ => rfl
  have g_less := PySem.W.mg_of X G a_less
  have F_sooner_of := fun_mk (st := s_sooner_of) l_sooner_of c_sooner_of k_sooner_of
  have b_sooner_of := F_sooner_of.binds (ps := ["one", "other"]) fun _ _ _ _ _ _ us hl => match us, hl with | [_, _], _ => rfl
  have g_sooner_of := PySem.W.mg_of X G a_sooner_of
  have F_later_of := fun_mk (st := s_later_of) l_later_of c_later_of k_later_of
  have b_later_of := F_later_of.binds (ps := ["one", "other"]) fun _ _ _ _ _ _ us hl => match us, hl with | [_, _], _ => rfl
  have g_later_of := PySem.W.mg_of X G a_later_of
  have F_is_edit := fun_mk (st := s_is_edit) l_is_edit c_is_edit k_is_edit
  have b_is_edit := F_is_edit.binds (ps := ["thing"]) fun _ _ _ _ _ _ us hl => match us, hl with | [_], _ => rfl
  have g_is_edit := PySem.W.mg_of X G a_is_edit
  have F_is_edits := fun_mk (st := s_is_edits) l_is_edits c_is_edits k_is_edits
  have b_is_edits := F_is_edits.binds (ps := ["thing"]) fun _ _ _ _ _ _ us hl => match us, hl with | [_], _ => rfl
  have g_is_edits := PySem.W.mg_of X G a_is_edits
  have F_sure_edits := fun_mk (st := s_sure_edits) l_sure_edits c_sure_edits k_sure_edits
  have b_sure_edits := F_sure_edits.binds (ps := ["thing"]) fun _ _ _ _ _ _ us hl => match us, hl with | [_], _ => rfl
  have g_sure_edits := PySem.W.mg_of X G a_sure_edits
  have F_sure_moment := fun_mk (st := s_sure_moment) l_sure_moment c_sure_moment k_sure_moment
  have b_sure_moment := F_sure_moment.binds (ps := ["thing"]) fun _ _ _ _ _ _ us hl => match us, hl with | [_], _ => rfl
  have g_sure_moment := PySem.W.mg_of X G a_sure_moment
  have F_led_by := fun_mk (st := s_led_by) l_led_by c_led_by k_led_by
  have b_led_by := F_led_by.binds (ps := ["edit", "later"]) fun _ _ _ _ _ _ us hl => match us, hl with | [_, _], _ => rfl
  have g_led_by := PySem.W.mg_of X G a_led_by
  have F_mapped := fun_mk (st := s_mapped) l_mapped c_mapped k_mapped
  have b_mapped := F_mapped.binds (ps := ["edits", "t"]) fun _ _ _ _ _ _ us hl => match us, hl with | [_, _], _ => rfl
  have g_mapped := PySem.W.mg_of X G a_mapped
  have F_goes_on := fun_mk (st := s_goes_on) l_goes_on c_goes_on k_goes_on
  have b_goes_on := F_goes_on.binds (ps := ["one", "other"]) fun _ _ _ _ _ _ us hl => match us, hl with | [_, _], _ => rfl
  have g_goes_on := PySem.W.mg_of X G a_goes_on
  have F_tidy := fun_mk (st := s_tidy) l_tidy c_tidy k_tidy
  have b_tidy := F_tidy.binds (ps := ["edits"]) fun _ _ _ _ _ _ us hl => match us, hl with | [_], _ => rfl
  have g_tidy := PySem.W.mg_of X G a_tidy
  have F_pieces_within := fun_mk (st := s_pieces_within) l_pieces_within c_pieces_within k_pieces_within
  have b_pieces_within := F_pieces_within.binds (ps := ["edits", "low", "high"]) fun _ _ _ _ _ _ us hl => match us, hl with | [_, _, _], _ => rfl
  have g_pieces_within := PySem.W.mg_of X G a_pieces_within
  have F_led_through := fun_mk (st := s_led_through) l_led_through c_led_through k_led_through
  have b_led_through := F_led_through.binds (ps := ["edit", "inner"]) fun _ _ _ _ _ _ us hl => match us, hl with | [_, _], _ => rfl
  have g_led_through := PySem.W.mg_of X G a_led_through
  have F_over := fun_mk (st := s_over) l_over c_over k_over
  have b_over := F_over.binds (ps := ["outer", "inner"]) fun _ _ _ _ _ _ us hl => match us, hl with | [_, _], _ => rfl
  have g_over := PySem.W.mg_of X G a_over
  have F__law_cell_at := fun_mk (st := s__law_cell_at) l__law_cell_at c__law_cell_at k__law_cell_at
  have b__law_cell_at := F__law_cell_at.binds (ps := ["_law_script", "_law_k"]) fun _ _ _ _ _ _ us hl => match us, hl with | [_, _], _ => rfl
  have g__law_cell_at := PySem.W.mg_of X G a__law_cell_at
  have F__law_digit := fun_mk (st := s__law_digit) l__law_digit c__law_digit k__law_digit
  have b__law_digit := F__law_digit.binds (ps := ["_law_state", "_law_base"]) fun _ _ _ _ _ _ us hl => match us, hl with | [_, _], _ => rfl
  have g__law_digit := PySem.W.mg_of X G a__law_digit
  have F__law_shared := fun_mk (st := s__law_shared) l__law_shared c__law_shared k__law_shared
  have b__law_shared := F__law_shared.binds (ps := ["_law_one", "_law_other"]) fun _ _ _ _ _ _ us hl => match us, hl with | [_, _], _ => rfl
  have g__law_shared := PySem.W.mg_of X G a__law_shared
  have F__law_lowest := fun_mk (st := s__law_lowest) l__law_lowest c__law_lowest k__law_lowest
  have b__law_lowest := F__law_lowest.binds (ps := ["_law_top", "_law_bottom"]) fun _ _ _ _ _ _ us hl => match us, hl with | [_, _], _ => rfl
  have g__law_lowest := PySem.W.mg_of X G a__law_lowest
  have F__law_plus := fun_mk (st := s__law_plus) l__law_plus c__law_plus k__law_plus
  have b__law_plus := F__law_plus.binds (ps := ["_law_one", "_law_other"]) fun _ _ _ _ _ _ us hl => match us, hl with | [_, _], _ => rfl
  have g__law_plus := PySem.W.mg_of X G a__law_plus
  have F__law_minus := fun_mk (st := s__law_minus) l__law_minus c__law_minus k__law_minus
  have b__law_minus := F__law_minus.binds (ps := ["_law_one", "_law_other"]) fun _ _ _ _ _ _ us hl => match us, hl with | [_, _], _ => rfl
  have g__law_minus := PySem.W.mg_of X G a__law_minus
  have F__law_times := fun_mk (st := s__law_times) l__law_times c__law_times k__law_times
  have b__law_times := F__law_times.binds (ps := ["_law_one", "_law_other"]) fun _ _ _ _ _ _ us hl => match us, hl with | [_, _], _ => rfl
  have g__law_times := PySem.W.mg_of X G a__law_times
  have F__law_less := fun_mk (st := s__law_less) l__law_less c__law_less k__law_less
  have b__law_less := F__law_less.binds (ps := ["_law_one", "_law_other"]) fun _ _ _ _ _ _ us hl => match us, hl with | [_, _], _ => rfl
  have g__law_less := PySem.W.mg_of X G a__law_less
  have F__law_amount := fun_mk (st := s__law_amount) l__law_amount c__law_amount k__law_amount
  have b__law_amount := F__law_amount.binds (ps := ["_law_state"]) fun _ _ _ _ _ _ us hl => match us, hl with | [_], _ => rfl
  have g__law_amount := PySem.W.mg_of X G a__law_amount
  have F__law_edit := fun_mk (st := s__law_edit) l__law_edit c__law_edit k__law_edit
  have b__law_edit := F__law_edit.binds (ps := ["_law_state", "_law_ahead"]) fun _ _ _ _ _ _ us hl => match us, hl with | [_, _], _ => rfl
  have g__law_edit := PySem.W.mg_of X G a__law_edit
  have F__law_edits := fun_mk (st := s__law_edits) l__law_edits c__law_edits k__law_edits
  have b__law_edits := F__law_edits.binds (ps := ["_law_state", "_law_few"]) fun _ _ _ _ _ _ us hl => match us, hl with | [_, _], _ => rfl
  have g__law_edits := PySem.W.mg_of X G a__law_edits
  have F__law_led := fun_mk (st := s__law_led) l__law_led c__law_led k__law_led
  have b__law_led := F__law_led.binds (ps := ["_law_edits_here", "_law_t"]) fun _ _ _ _ _ _ us hl => match us, hl with | [_, _], _ => rfl
  have g__law_led := PySem.W.mg_of X G a__law_led
  have F__law_is_tidy := fun_mk (st := s__law_is_tidy) l__law_is_tidy c__law_is_tidy k__law_is_tidy
  have b__law_is_tidy := F__law_is_tidy.binds (ps := ["_law_edits_here"]) fun _ _ _ _ _ _ us hl => match us, hl with | [_], _ => rfl
  have g__law_is_tidy := PySem.W.mg_of X G a__law_is_tidy
  have F__law_met := fun_mk (st := s__law_met) l__law_met c__law_met k__law_met
  have b__law_met := F__law_met.binds (ps := ["_law_span", "_law_start", "_law_rate", "_law_mark"]) fun _ _ _ _ _ _ us hl => match us, hl with | [_, _, _, _], _ => rfl
  have g__law_met := PySem.W.mg_of X G a__law_met
  have F__law_moments := fun_mk (st := s__law_moments) l__law_moments c__law_moments k__law_moments
  have b__law_moments := F__law_moments.binds (ps := ["_law_above", "_law_below", "_law_cells"]) fun _ _ _ _ _ _ us hl => match us, hl with | [_, _, _], _ => rfl
  have g__law_moments := PySem.W.mg_of X G a__law_moments
  have F__law_through := fun_mk (st := s__law_through) l__law_through c__law_through k__law_through
  have b__law_through := F__law_through.binds (ps := ["_law_above", "_law_below", "_law_t"]) fun _ _ _ _ _ _ us hl => match us, hl with | [_, _, _], _ => rfl
  have g__law_through := PySem.W.mg_of X G a__law_through
  have F_law := fun_mk (st := s_law) l_law c_law k_law
  have b_law := F_law.binds (ps := ["_law_script"]) fun _ _ _ _ _ _ us hl => match us, hl with | [_], _ => rfl
  have g_law := PySem.W.mg_of X G a_law
  have T_NoFraction : ExcR K mg "NoFraction" C_NoFraction := ⟨⟨PySem.W.mg_of X G xca_NoFraction, ⟨xchg_NoFraction, xchk_NoFraction, xchs_NoFraction, xchd_NoFraction, xcha_NoFraction, xhn, xht, xchm_NoFraction⟩, xcty_NoFraction, xckp_NoFraction, xcve_NoFraction, xcis_NoFraction, xcself_NoFraction⟩, xcex_NoFraction⟩
  have T_NoEdits : ExcR K mg "NoEdits" C_NoEdits := ⟨⟨PySem.W.mg_of X G xca_NoEdits, ⟨xchg_NoEdits, xchk_NoEdits, xchs_NoEdits, xchd_NoEdits, xcha_NoEdits, xhn, xht, xchm_NoEdits⟩, xcty_NoEdits, xckp_NoEdits, xcve_NoEdits, xcis_NoEdits, xcself_NoEdits⟩, xcex_NoEdits⟩
  have T_NoMoment : ExcR K mg "NoMoment" C_NoMoment := ⟨⟨PySem.W.mg_of X G xca_NoMoment, ⟨xchg_NoMoment, xchk_NoMoment, xchs_NoMoment, xchd_NoMoment, xcha_NoMoment, xhn, xht, xchm_NoMoment⟩, xcty_NoMoment, xckp_NoMoment, xcve_NoMoment, xcis_NoMoment, xcself_NoMoment⟩, xcex_NoMoment⟩
  have c_NOUGHT : CT K mg "NOUGHT" C_NOUGHT (⟨0, 1⟩ : (Tp2 Int Int)) := ⟨PySem.W.mg_of X G cg_NOUGHT, fun B => .tup (Or.inr ⟨_, _, _, cl_NOUGHT, rfl, rfl, by show 2 ≤ sizeLine; decide, (.cons (show L2.RelV (.int 0) (.int 0 tk_NOUGHT_0) from ⟨_, rfl⟩) (.cons (show L2.RelV (.int 1) (.int 1 tk_NOUGHT_1) from ⟨_, rfl⟩) .nil))⟩) (.cons (Rep.int _) (.cons (Rep.int _) .nil))⟩
  have bI_abs := PySem.W.mg_none_of X G z_abs
  have bI_isinstance := PySem.W.mg_none_of X G z_isinstance
  have bI_int := PySem.W.mg_none_of X G z_int
  have bI_bool := PySem.W.mg_none_of X G z_bool
  have bI_tuple := PySem.W.mg_none_of X G z_tuple
  have bI_len := PySem.W.mg_none_of X G z_len
  have bI_list := PySem.W.mg_none_of X G z_list
  have bI_all := PySem.W.mg_none_of X G z_all
  have bI_range := PySem.W.mg_none_of X G z_range
  have kb_over_0_inner_outer : KBinds K (PySem.W.fnOf "over" "over" (defArgs s_over) (defBody s_over) (defScope s_over) .none kV_over dc_over pm_over an_over cd_over ct_over) ["outer", "inner"] ["inner", "outer"] (fun us ws => match us, ws with | [], [w0, w1] => [w1, w0] | _, _ => []) (fun us ws => match us, ws with | [], [w0, w1] => [w1, w0] | _, _ => []) := by
    refine F_over.kb (fun _ _ _ _ _ _ us ws hl => ?_) (fun {vs us zs ws} r1 r2 => ?_)
    · skip
      cases us with
      | nil =>
        cases ws with
        | nil => exact absurd (show (0 : Nat) = 2 from hl) (by decide)
        | cons q10 ws =>
          cases ws with
          | nil => exact absurd (show (0 : Nat) = 2 from hl) (by decide)
          | cons q11 ws =>
            cases ws with
            | nil =>
              rfl
            | cons _ _ => exact absurd (show (0 : Nat) = 2 from hl) (by decide)
      | cons _ _ => exact absurd (show (0 : Nat) = 2 from hl) (by decide)
    · skip
      cases r1 with
      | nil =>
        cases r2 with
        | nil => exact .nil
        | cons q10 r2 =>
          cases r2 with
          | nil => exact .nil
          | cons q11 r2 =>
            cases r2 with
            | nil =>
              exact (.cons q11 (.cons q10 .nil))
            | cons _ _ => exact .nil
      | cons _ _ => exact .nil
  refine ⟨_, fun s v => (.of_eq rfl : BindsTo s (PySem.W.fnOf "law" "law" (defArgs s_law) (defBody s_law) (defScope s_law) .none kV_law dc_law pm_law an_law cd_law ct_law) ⟨[v], []⟩ [("_law_script", v)]), fun base _ _ => ?_⟩
  have G_divisor := ok_divisor (Pr := l.prog) (wo := w) (base := base) (mg := mg) F_divisor bI_abs
  have G_is_number := ok_is_number (Pr := l.prog) (wo := w) (base := base) (mg := mg) F_is_number bI_isinstance bI_int bI_bool
  have G_less := ok_less (Pr := l.prog) (wo := w) (base := base) (mg := mg) F_less
  have G__law_cell_at := ok__law_cell_at (Pr := l.prog) (wo := w) (base := base) (mg := mg) F__law_cell_at bI_len
  have G__law_digit := ok__law_digit (Pr := l.prog) (wo := w) (base := base) (mg := mg) F__law_digit bI_len
  have G__law_shared := ok__law_shared (Pr := l.prog) (wo := w) (base := base) (mg := mg) F__law_shared bI_abs
  have G__law_less := ok__law_less (Pr := l.prog) (wo := w) (base := base) (mg := mg) F__law_less
  have G_fraction := ok_fraction (Pr := l.prog) (wo := w) (base := base) (mg := mg) F_fraction T_NoFraction g_divisor k_divisor b_divisor G_divisor g_is_number k_is_number b_is_number G_is_number
  have G_is_fraction := ok_is_fraction (Pr := l.prog) (wo := w) (base := base) (mg := mg) F_is_fraction g_divisor k_divisor b_divisor G_divisor g_is_number k_is_number b_is_number G_is_number bI_isinstance bI_tuple bI_len
  have G_sooner_of := ok_sooner_of (Pr := l.prog) (wo := w) (base := base) (mg := mg) F_sooner_of g_less k_less b_less G_less
  have G_later_of := ok_later_of (Pr := l.prog) (wo := w) (base := base) (mg := mg) F_later_of g_less k_less b_less G_less
  have G__law_lowest := ok__law_lowest (Pr := l.prog) (wo := w) (base := base) (mg := mg) F__law_lowest g__law_shared k__law_shared b__law_shared G__law_shared
  have G_is_moment := ok_is_moment (Pr := l.prog) (wo := w) (base := base) (mg := mg) F_is_moment g_is_fraction k_is_fraction b_is_fraction G_is_fraction
  have G_plus := ok_plus (Pr := l.prog) (wo := w) (base := base) (mg := mg) F_plus g_fraction k_fraction b_fraction G_fraction
  have G_minus := ok_minus (Pr := l.prog) (wo := w) (base := base) (mg := mg) F_minus g_fraction k_fraction b_fraction G_fraction
  have G_times := ok_times (Pr := l.prog) (wo := w) (base := base) (mg := mg) F_times g_fraction k_fraction b_fraction G_fraction
  have G_shared := ok_shared (Pr := l.prog) (wo := w) (base := base) (mg := mg) F_shared T_NoFraction g_fraction k_fraction b_fraction G_fraction
  have G__law_plus := ok__law_plus (Pr := l.prog) (wo := w) (base := base) (mg := mg) F__law_plus g__law_lowest k__law_lowest b__law_lowest G__law_lowest
  have G__law_minus := ok__law_minus (Pr := l.prog) (wo := w) (base := base) (mg := mg) F__law_minus g__law_lowest k__law_lowest b__law_lowest G__law_lowest
  have G__law_times := ok__law_times (Pr := l.prog) (wo := w) (base := base) (mg := mg) F__law_times g__law_lowest k__law_lowest b__law_lowest G__law_lowest
  have G__law_amount := ok__law_amount (Pr := l.prog) (wo := w) (base := base) (mg := mg) F__law_amount g__law_digit k__law_digit b__law_digit G__law_digit g__law_lowest k__law_lowest b__law_lowest G__law_lowest
  have G_is_edit := ok_is_edit (Pr := l.prog) (wo := w) (base := base) (mg := mg) F_is_edit c_NOUGHT g_is_moment k_is_moment b_is_moment G_is_moment g_is_fraction k_is_fraction b_is_fraction G_is_fraction g_less k_less b_less G_less bI_isinstance bI_tuple bI_len
  have G_sure_moment := ok_sure_moment (Pr := l.prog) (wo := w) (base := base) (mg := mg) F_sure_moment T_NoMoment g_is_moment k_is_moment b_is_moment G_is_moment
  have G_led_by := ok_led_by (Pr := l.prog) (wo := w) (base := base) (mg := mg) F_led_by g_plus k_plus b_plus G_plus g_times k_times b_times G_times
  have G__law_edit := ok__law_edit (Pr := l.prog) (wo := w) (base := base) (mg := mg) F__law_edit g__law_digit k__law_digit b__law_digit G__law_digit g__law_plus k__law_plus b__law_plus G__law_plus g__law_amount k__law_amount b__law_amount G__law_amount g__law_lowest k__law_lowest b__law_lowest G__law_lowest g__law_times k__law_times b__law_times G__law_times
  have G__law_led := ok__law_led (Pr := l.prog) (wo := w) (base := base) (mg := mg) F__law_led g__law_less k__law_less b__law_less G__law_less g__law_minus k__law_minus b__law_minus G__law_minus g__law_plus k__law_plus b__law_plus G__law_plus g__law_times k__law_times b__law_times G__law_times
  have G__law_is_tidy := ok__law_is_tidy (Pr := l.prog) (wo := w) (base := base) (mg := mg) F__law_is_tidy g__law_plus k__law_plus b__law_plus G__law_plus g__law_times k__law_times b__law_times G__law_times bI_range bI_isinstance bI_list bI_len
  have G__law_met := ok__law_met (Pr := l.prog) (wo := w) (base := base) (mg := mg) F__law_met g__law_times k__law_times b__law_times G__law_times g__law_less k__law_less b__law_less G__law_less g__law_minus k__law_minus b__law_minus G__law_minus bI_int
  have G_is_edits := ok_is_edits (Pr := l.prog) (wo := w) (base := base) (mg := mg) F_is_edits g_is_edit k_is_edit b_is_edit G_is_edit bI_isinstance bI_list bI_all
  have G_goes_on := ok_goes_on (Pr := l.prog) (wo := w) (base := base) (mg := mg) F_goes_on g_led_by k_led_by b_led_by G_led_by
  have G_pieces_within := ok_pieces_within (Pr := l.prog) (wo := w) (base := base) (mg := mg) F_pieces_within c_NOUGHT g_later_of k_later_of b_later_of G_later_of g_less k_less b_less G_less g_plus k_plus b_plus G_plus g_sooner_of k_sooner_of b_sooner_of G_sooner_of g_minus k_minus b_minus G_minus g_led_by k_led_by b_led_by G_led_by
  have G__law_edits := ok__law_edits (Pr := l.prog) (wo := w) (base := base) (mg := mg) F__law_edits g__law_digit k__law_digit b__law_digit G__law_digit g__law_edit k__law_edit b__law_edit G__law_edit bI_range
  have G__law_moments := ok__law_moments (Pr := l.prog) (wo := w) (base := base) (mg := mg) F__law_moments g__law_plus k__law_plus b__law_plus G__law_plus g__law_amount k__law_amount b__law_amount G__law_amount g__law_lowest k__law_lowest b__law_lowest G__law_lowest g__law_times k__law_times b__law_times G__law_times g__law_digit k__law_digit b__law_digit G__law_digit g__law_met k__law_met b__law_met G__law_met
  have G__law_through := ok__law_through (Pr := l.prog) (wo := w) (base := base) (mg := mg) F__law_through g__law_led k__law_led b__law_led G__law_led
  have G_sure_edits := ok_sure_edits (Pr := l.prog) (wo := w) (base := base) (mg := mg) F_sure_edits T_NoEdits g_is_edits k_is_edits b_is_edits G_is_edits
  have G_mapped := ok_mapped (Pr := l.prog) (wo := w) (base := base) (mg := mg) F_mapped g_sure_edits k_sure_edits b_sure_edits G_sure_edits g_sure_moment k_sure_moment b_sure_moment G_sure_moment g_less k_less b_less G_less g_minus k_minus b_minus G_minus g_led_by k_led_by b_led_by G_led_by
  have G_tidy := ok_tidy (Pr := l.prog) (wo := w) (base := base) (mg := mg) F_tidy g_sure_edits k_sure_edits b_sure_edits G_sure_edits g_goes_on k_goes_on b_goes_on G_goes_on g_plus k_plus b_plus G_plus
  have G_led_through := ok_led_through (Pr := l.prog) (wo := w) (base := base) (mg := mg) F_led_through c_NOUGHT g_pieces_within k_pieces_within b_pieces_within G_pieces_within g_plus k_plus b_plus G_plus g_times k_times b_times G_times g_mapped k_mapped b_mapped G_mapped g_shared k_shared b_shared G_shared
  have G_over := ok_over (Pr := l.prog) (wo := w) (base := base) (mg := mg) F_over g_sure_edits k_sure_edits b_sure_edits G_sure_edits g_tidy k_tidy b_tidy G_tidy g_led_through k_led_through b_led_through G_led_through
  have G_law := ok_law (Pr := l.prog) (wo := w) (base := base) (mg := mg) F_law g__law_edits k__law_edits b__law_edits G__law_edits g_over k_over b_over G_over g__law_moments k__law_moments b__law_moments G__law_moments g__law_cell_at k__law_cell_at b__law_cell_at G__law_cell_at g__law_is_tidy k__law_is_tidy b__law_is_tidy G__law_is_tidy g__law_led k__law_led b__law_led G__law_led g__law_through k__law_through b__law_through G__law_through kb_over_0_inner_outer bI_list
  exact G_law.imp fun vs H Q E h => top_of law_ok h
end A
open PySem PySem.W PyProof.Rows
set_option maxRecDepth 100000 in
set_option maxHeartbeats 0 in
theorem PySem.Challenge.cw_lanescroll_k15_edits_over_edits_holds : PySem.Challenge.rw_lanescroll_k15_edits_over_edits.Holds := by
  w_on; o_law; k_head; (case hw => w_witness2)
  k_fill
  refine Y.walk_top (l := PySem.Challenge.rw_lanescroll_k15_edits_over_edits) (k := 10) (x := "_law_script") rfl rfl ⟨rfl, by decide, by decide⟩ (fun w h Y => PySem.W.kIn_of Y) ?F
  case F =>
    intro w mg fa h KX G hmg
    refine' A.all_mk KX G hmg ?a_divisor ?l_divisor ?c_divisor ?k_divisor ?a_is_number ?l_is_number ?c_is_number ?k_is_number ?a_fraction ?l_fraction ?c_fraction ?k_fraction ?lT_fraction ?a_is_fraction ?l_is_fraction ?c_is_fraction ?k_is_fraction ?a_is_moment ?l_is_moment ?c_is_moment ?k_is_moment ?a_plus ?l_plus ?c_plus ?k_plus ?a_minus ?l_minus ?c_minus ?k_minus ?a_times ?l_times ?c_times ?k_times ?a_shared ?l_shared ?c_shared ?k_shared ?a_less ?l_less ?c_less ?k_less ?a_sooner_of ?l_sooner_of ?c_sooner_of ?k_sooner_of ?a_later_of ?l_later_of ?c_later_of ?k_later_of ?a_is_edit ?l_is_edit ?c_is_edit ?k_is_edit ?a_is_edits ?l_is_edits ?c_is_edits ?k_is_edits ?a_sure_edits ?l_sure_edits ?c_sure_edits ?k_sure_edits ?a_sure_moment ?l_sure_moment ?c_sure_moment ?k_sure_moment ?a_led_by ?l_led_by ?c_led_by ?k_led_by ?a_mapped ?l_mapped ?c_mapped ?k_mapped ?a_goes_on ?l_goes_on ?c_goes_on ?k_goes_on ?a_tidy ?l_tidy ?c_tidy ?k_tidy ?a_pieces_within ?l_pieces_within ?c_pieces_within ?k_pieces_within ?a_led_through ?l_led_through ?c_led_through ?k_led_through ?a_over ?l_over ?c_over ?k_over ?a__law_cell_at ?l__law_cell_at ?c__law_cell_at ?k__law_cell_at ?a__law_digit ?l__law_digit ?c__law_digit ?k__law_digit ?a__law_shared ?l__law_shared ?c__law_shared ?k__law_shared ?a__law_lowest ?l__law_lowest ?c__law_lowest ?k__law_lowest ?a__law_plus ?l__law_plus ?c__law_plus ?k__law_plus ?a__law_minus ?l__law_minus ?c__law_minus ?k__law_minus ?a__law_times ?l__law_times ?c__law_times ?k__law_times ?a__law_less ?l__law_less ?c__law_less ?k__law_less ?a__law_amount ?l__law_amount ?c__law_amount ?k__law_amount ?a__law_edit ?l__law_edit ?c__law_edit ?k__law_edit ?a__law_edits ?l__law_edits ?c__law_edits ?k__law_edits ?a__law_led ?l__law_led ?c__law_led ?k__law_led ?a__law_is_tidy ?l__law_is_tidy ?c__law_is_tidy ?k__law_is_tidy ?a__law_met ?l__law_met ?c__law_met ?k__law_met ?a__law_moments ?l__law_moments ?c__law_moments ?k__law_moments ?a__law_through ?l__law_through ?c__law_through ?k__law_through ?a_law ?l_law ?c_law ?k_law ?xca_NoFraction ?xchg_NoFraction ?xchk_NoFraction ?xchs_NoFraction ?xchd_NoFraction ?xcha_NoFraction ?xchm_NoFraction ?xcty_NoFraction ?xckp_NoFraction ?xcve_NoFraction ?xcis_NoFraction ?xcself_NoFraction ?xcex_NoFraction ?xca_NoEdits ?xchg_NoEdits ?xchk_NoEdits ?xchs_NoEdits ?xchd_NoEdits ?xcha_NoEdits ?xchm_NoEdits ?xcty_NoEdits ?xckp_NoEdits ?xcve_NoEdits ?xcis_NoEdits ?xcself_NoEdits ?xcex_NoEdits ?xca_NoMoment ?xchg_NoMoment ?xchk_NoMoment ?xchs_NoMoment ?xchd_NoMoment ?xcha_NoMoment ?xchm_NoMoment ?xcty_NoMoment ?xckp_NoMoment ?xcve_NoMoment ?xcis_NoMoment ?xcself_NoMoment ?xcex_NoMoment ?cg_NOUGHT ?cl_NOUGHT ?xhn ?xht ?z_abs ?z_isinstance ?z_int ?z_bool ?z_tuple ?z_len ?z_list ?z_all ?z_range
    (case a_divisor => k_is)
    (case l_divisor => k_is)
    (case c_divisor => k_is)
    (case k_divisor => k_is)
    (case a_is_number => k_is)
    (case l_is_number => k_is)
    (case c_is_number => k_is)
    (case k_is_number => k_is)
    (case a_fraction => k_is)
    (case l_fraction => k_is)
    (case c_fraction => k_is)
    (case k_fraction => k_is)
    (case lT_fraction => k_is)
    (case a_is_fraction => k_is)
    (case l_is_fraction => k_is)
    (case c_is_fraction => k_is)
    (case k_is_fraction => k_is)
    (case a_is_moment => k_is)
    (case l_is_moment => k_is)
    (case c_is_moment => k_is)
    (case k_is_moment => k_is)
    (case a_plus => k_is)
    (case l_plus => k_is)
    (case c_plus => k_is)
    (case k_plus => k_is)
    (case a_minus => k_is)
    (case l_minus => k_is)
    (case c_minus => k_is)
    (case k_minus => k_is)
    (case a_times => k_is)
    (case l_times => k_is)
    (case c_times => k_is)
    (case k_times => k_is)
    (case a_shared => k_is)
    (case l_shared => k_is)
    (case c_shared => k_is)
    (case k_shared => k_is)
    (case a_less => k_is)
    (case l_less => k_is)
    (case c_less => k_is)
    (case k_less => k_is)
    (case a_sooner_of => k_is)
    (case l_sooner_of => k_is)
    (case c_sooner_of => k_is)
    (case k_sooner_of => k_is)
    (case a_later_of => k_is)
    (case l_later_of => k_is)
    (case c_later_of => k_is)
    (case k_later_of => k_is)
    (case a_is_edit => k_is)
    (case l_is_edit => k_is)
    (case c_is_edit => k_is)
    (case k_is_edit => k_is)
    (case a_is_edits => k_is)
    (case l_is_edits => k_is)
    (case c_is_edits => k_is)
    (case k_is_edits => k_is)
    (case a_sure_edits => k_is)
    (case l_sure_edits => k_is)
    (case c_sure_edits => k_is)
    (case k_sure_edits => k_is)
    (case a_sure_moment => k_is)
    (case l_sure_moment => k_is)
    (case c_sure_moment => k_is)
    (case k_sure_moment => k_is)
    (case a_led_by => k_is)
    (case l_led_by => k_is)
    (case c_led_by => k_is)
    (case k_led_by => k_is)
    (case a_mapped => k_is)
    (case l_mapped => k_is)
    (case c_mapped => k_is)
    (case k_mapped => k_is)
    (case a_goes_on => k_is)
    (case l_goes_on => k_is)
    (case c_goes_on => k_is)
    (case k_goes_on => k_is)
    (case a_tidy => k_is)
    (case l_tidy => k_is)
    (case c_tidy => k_is)
    (case k_tidy => k_is)
    (case a_pieces_within => k_is)
    (case l_pieces_within => k_is)
    (case c_pieces_within => k_is)
    (case k_pieces_within => k_is)
    (case a_led_through => k_is)
    (case l_led_through => k_is)
    (case c_led_through => k_is)
    (case k_led_through => k_is)
    (case a_over => k_is)
    (case l_over => k_is)
    (case c_over => k_is)
    (case k_over => k_is)
    (case a__law_cell_at => k_is)
    (case l__law_cell_at => k_is)
    (case c__law_cell_at => k_is)
    (case k__law_cell_at => k_is)
    (case a__law_digit => k_is)
    (case l__law_digit => k_is)
    (case c__law_digit => k_is)
    (case k__law_digit => k_is)
    (case a__law_shared => k_is)
    (case l__law_shared => k_is)
    (case c__law_shared => k_is)
    (case k__law_shared => k_is)
    (case a__law_lowest => k_is)
    (case l__law_lowest => k_is)
    (case c__law_lowest => k_is)
    (case k__law_lowest => k_is)
    (case a__law_plus => k_is)
    (case l__law_plus => k_is)
    (case c__law_plus => k_is)
    (case k__law_plus => k_is)
    (case a__law_minus => k_is)
    (case l__law_minus => k_is)
    (case c__law_minus => k_is)
    (case k__law_minus => k_is)
    (case a__law_times => k_is)
    (case l__law_times => k_is)
    (case c__law_times => k_is)
    (case k__law_times => k_is)
    (case a__law_less => k_is)
    (case l__law_less => k_is)
    (case c__law_less => k_is)
    (case k__law_less => k_is)
    (case a__law_amount => k_is)
    (case l__law_amount => k_is)
    (case c__law_amount => k_is)
    (case k__law_amount => k_is)
    (case a__law_edit => k_is)
    (case l__law_edit => k_is)
    (case c__law_edit => k_is)
    (case k__law_edit => k_is)
    (case a__law_edits => k_is)
    (case l__law_edits => k_is)
    (case c__law_edits => k_is)
    (case k__law_edits => k_is)
    (case a__law_led => k_is)
    (case l__law_led => k_is)
    (case c__law_led => k_is)
    (case k__law_led => k_is)
    (case a__law_is_tidy => k_is)
    (case l__law_is_tidy => k_is)
    (case c__law_is_tidy => k_is)
    (case k__law_is_tidy => k_is)
    (case a__law_met => k_is)
    (case l__law_met => k_is)
    (case c__law_met => k_is)
    (case k__law_met => k_is)
    (case a__law_moments => k_is)
    (case l__law_moments => k_is)
    (case c__law_moments => k_is)
    (case k__law_moments => k_is)
    (case a__law_through => k_is)
    (case l__law_through => k_is)
    (case c__law_through => k_is)
    (case k__law_through => k_is)
    (case a_law => k_is)
    (case l_law => k_is)
    (case c_law => k_is)
    (case k_law => k_is)
    (case xca_NoFraction => k_is)
    (case xchg_NoFraction => k_is)
    (case xchk_NoFraction => k_is)
    (case xchs_NoFraction => k_is)
    (case xchd_NoFraction => k_is)
    (case xcha_NoFraction => k_is)
    (case xchm_NoFraction => k_is)
    (case xcty_NoFraction => k_is)
    (case xckp_NoFraction => k_is)
    (case xcve_NoFraction => k_is)
    (case xcis_NoFraction => k_is)
    (case xcself_NoFraction => k_is)
    (case xcex_NoFraction => k_exc)
    (case xca_NoEdits => k_is)
    (case xchg_NoEdits => k_is)
    (case xchk_NoEdits => k_is)
    (case xchs_NoEdits => k_is)
    (case xchd_NoEdits => k_is)
    (case xcha_NoEdits => k_is)
    (case xchm_NoEdits => k_is)
    (case xcty_NoEdits => k_is)
    (case xckp_NoEdits => k_is)
    (case xcve_NoEdits => k_is)
    (case xcis_NoEdits => k_is)
    (case xcself_NoEdits => k_is)
    (case xcex_NoEdits => k_exc)
    (case xca_NoMoment => k_is)
    (case xchg_NoMoment => k_is)
    (case xchk_NoMoment => k_is)
    (case xchs_NoMoment => k_is)
    (case xchd_NoMoment => k_is)
    (case xcha_NoMoment => k_is)
    (case xchm_NoMoment => k_is)
    (case xcty_NoMoment => k_is)
    (case xckp_NoMoment => k_is)
    (case xcve_NoMoment => k_is)
    (case xcis_NoMoment => k_is)
    (case xcself_NoMoment => k_is)
    (case xcex_NoMoment => k_exc)
    (case cg_NOUGHT => k_is)
    (case cl_NOUGHT => k_is)
    (case xhn => k_is)
    (case xht => k_is)
    (case z_abs => k_is)
    (case z_isinstance => k_is)
    (case z_int => k_is)
    (case z_bool => k_is)
    (case z_tuple => k_is)
    (case z_len => k_is)
    (case z_list => k_is)
    (case z_all => k_is)
    (case z_range => k_is)
