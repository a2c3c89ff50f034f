import PyProof.Rows.All
import Wide.All
import OpenK.AllK
import Wide.FinOn
import HandS.ForMost
import HandS.Evl
import HandS.IsInst
import HandS.Flow
import HandS.Defaults
import HandS.Wide
import HandS.WideMore
import HandS.Style
import HandS.ForExc
import HandS.TryOnly
import HandS.CallSlots
import HandS.ExcIs
import HandS.Walk
import HandS.Iter
import HandS.More
import HandS.TryMany
import PySem.Challenge.RW_lanescroll_k33_stuffed_and_unstuffed
set_option Elab.async false
set_option linter.all false
set_option maxRecDepth 100000
set_option maxHeartbeats 2000000
namespace Y
open PySem PySem.Spec PyProof.Rows
open L2

/-- data: what a value stands for, through the heap -/
inductive D where
  | non | bl (b : Bool) | int (i : Int) | str (x : Str)
  | lst (ds : List D) | tup (ds : List D) | dic (kvs : List (Key × D))

abbrev Ex (H H' : Hp) : Prop := ∀ a o, H a = some o → H' a = some o
theorem Ex.refl (H : Hp) : Ex H H := fun _ _ h => h
theorem Ex.trans {H H1 H2 : Hp} (a : Ex H H1) (b : Ex H1 H2) : Ex H H2 := fun x o h => b x o (a x o h)
theorem Ex.new {H : Hp} {p : Addr} {o : HO} (h : H p = none) : Ex H (upd H p o) := fun a u e => by
  rw [upd_ne (ne_of_none e h)]
  exact e
theorem Ex.upd {B H : Hp} {p : Addr} {o : HO} (e : Ex B H) (h : B p = none) : Ex B (upd H p o) := fun a u ha => by
  rw [upd_ne (ne_of_none ha h)]
  exact e a u ha
theorem Ex.both {B H : Hp} {p : Addr} {o : HO} (e : Ex B H) : Ex (L2.upd B p o) (L2.upd H p o) := fun a u ha => by
  by_cases q : a = p
  · subst q; rw [upd_same] at ha; cases ha; exact upd_same
  · rw [upd_ne q] at ha; rw [upd_ne q]; exact e a u ha
theorem Ex.none {H H' : Hp} {p : Addr} (e : Ex H H') (h : H' p = none) : H p = none := by
  cases h1 : H p with
  | none => rfl
  | some o => rw [e p o h1] at h; cases h
theorem Ex.rd {H H' : Hp} {a : Addr} {u : HO} (e : Ex H H') (h : Rd H a u) : Rd H' a u := by
  rcases h with h | ⟨o, h⟩
  · exact Or.inl (e a _ h)
  · exact Or.inr ⟨o, e a _ h⟩
theorem Ex.l {K : PySem.W.Frag} {H H' : Hp} {a : Addr} {xs : List V} (e : Ex H H') (h : SqL K H a xs) : SqL K H' a xs := by
  rcases h with h | h
  · exact Or.inl (e.rd h)
  · exact Or.inr h
theorem Ex.t {K : PySem.W.Frag} {H H' : Hp} {a : Addr} {xs : List V} (e : Ex H H') (h : SqT K H a xs) : SqT K H' a xs := by
  rcases h with h | h
  · exact Or.inl (e.rd h)
  · exact Or.inr h

mutual
/-- v stands for d -/
inductive Rep (K : PySem.W.Frag) (B : Hp) : V → D → Prop where
  | non : Rep K B .non .non
  | bl (b : Bool) : Rep K B (.bl b) (.bl b)
  | int (i : Int) : Rep K B (.int i) (.int i)
  | str (x : Str) : Rep K B (.str x) (.str x)
  | lst {p : Addr} {xs : List V} {ds : List D} (h : SqL K B p xs) (r : RepL K B xs ds) : Rep K B (.ref p) (.lst ds)
  | tup {p : Addr} {xs : List V} {ds : List D} (h : SqT K B p xs) (r : RepL K B xs ds) : Rep K B (.ref p) (.tup ds)
  | dic {p : Addr} {kvs : List (Key × V)} {ds : List (Key × D)} (h : B p = some (.dK kvs)) (r : RepK K B kvs ds) : Rep K B (.ref p) (.dic ds)
inductive RepL (K : PySem.W.Frag) (B : Hp) : List V → List D → Prop where
  | nil : RepL K B [] []
  | cons {v : V} {d : D} {vs : List V} {ds : List D} (h : Rep K B v d) (t : RepL K B vs ds) : RepL K B (v :: vs) (d :: ds)
inductive RepK (K : PySem.W.Frag) (B : Hp) : List (Key × V) → List (Key × D) → Prop where
  | nil : RepK K B [] []
  | cons {k : Key} {v : V} {d : D} {vs : List (Key × V)} {ds : List (Key × D)} (h : Rep K B v d) (t : RepK K B vs ds) : RepK K B ((k, v) :: vs) ((k, d) :: ds)
end
section
variable {K : PySem.W.Frag} {B B' H : Hp}
mutual
theorem Rep.mono (e : Ex B B') : ∀ {v : V} {d : D}, Rep K B v d → Rep K B' v d
  | _, _, .non => .non
  | _, _, .bl b => .bl b
  | _, _, .int i => .int i
  | _, _, .str x => .str x
  | _, _, .lst h r => .lst (e.l h) (RepL.mono e r)
  | _, _, .tup h r => .tup (e.t h) (RepL.mono e r)
  | _, _, .dic h r => .dic (e _ _ h) (RepK.mono e r)
theorem RepL.mono (e : Ex B B') : ∀ {vs : List V} {ds : List D}, RepL K B vs ds → RepL K B' vs ds
  | _, _, .nil => .nil
  | _, _, .cons h t => .cons (Rep.mono e h) (RepL.mono e t)
theorem RepK.mono (e : Ex B B') : ∀ {vs : List (Key × V)} {ds : List (Key × D)}, RepK K B vs ds → RepK K B' vs ds
  | _, _, .nil => .nil
  | _, _, .cons h t => .cons (Rep.mono e h) (RepK.mono e t)
end
theorem RepL.length : ∀ {vs : List V} {ds : List D}, RepL K B vs ds → vs.length = ds.length
  | _, _, .nil => rfl
  | _, _, .cons _ t => congrArg Nat.succ (RepL.length t)
theorem RepL.get : ∀ {vs : List V} {ds : List D} {i : Nat} {d : D}, RepL K B vs ds → ds[i]? = some d → ∃ v, vs[i]? = some v ∧ Rep K B v d
  | _, _, _, _, .nil, e => by simp at e
  | _, _, 0, _, .cons r _, e => by simp at e; subst e; exact ⟨_, rfl, r⟩
  | _, _, i + 1, x, .cons _ t, e => by
    obtain ⟨u, h1, h2⟩ := RepL.get (i := i) (d := x) t (by simpa using e)
    exact ⟨u, by simpa using h1, h2⟩
theorem RepL.append : ∀ {vs ws : List V} {ds es : List D}, RepL K B vs ds → RepL K B ws es → RepL K B (vs ++ ws) (ds ++ es)
  | _, _, _, _, .nil, s => s
  | _, _, _, _, .cons r t, s => .cons r (RepL.append t s)
theorem RepL.at {vs : List V} {ds : List D} {i : Int} {d : D} (r : RepL K B vs ds) (h : atI ds i = some d) : ∃ v, atI vs i = some v ∧ Rep K B v d := by
  unfold atI at h ⊢
  rw [r.length]
  cases e : ixN ds.length i with
  | none => rw [e] at h; cases h
  | some j => rw [e] at h; exact r.get h
theorem RepL.ints : ∀ (ns : List Int), RepL K B (ns.map V.int) (ns.map D.int)
  | [] => .nil
  | n :: r => .cons (.int n) (RepL.ints r)
theorem RepL.of_ints : ∀ {vs : List V} {ns : List Int}, RepL K B vs (ns.map D.int) → vs = ns.map V.int
  | [], [], _ => rfl
  | _ :: _, [], r => nomatch r
  | [], _ :: _, r => nomatch r
  | v :: vs, n :: ns, r => by
    cases r with
    | cons h t =>
      cases h
      rw [RepL.of_ints t]
      rfl
end

/-- from (B, H), what is known and the heap, to (B', H'), writing at most at W -/
structure Stp (W : List Addr) (B H B' H' : Hp) : Prop where
  ex : Ex B B'
  ok : Ex B' H'
  fr : ∀ a o, a ∉ W → H a = some o → H' a = some o
  al : ∀ a o, H a = some o → ∃ o', H' a = some o'
  nw : ∀ a o, B a = none → H a = some o → B' a = none
section
variable {W W' : List Addr} {B H B' H' B1 H1 B2 H2 : Hp} {p : Addr} {o : HO}
theorem Stp.refl (w : Ex B H) : Stp W B H B H := ⟨Ex.refl B, w, fun _ _ _ h => h, fun _ o h => ⟨o, h⟩, fun _ _ h _ => h⟩
theorem Stp.trans (a : Stp W B H B1 H1) (b : Stp W B1 H1 B2 H2) : Stp W B H B2 H2 :=
  ⟨a.ex.trans b.ex, b.ok, fun x o hx h => b.fr x o hx (a.fr x o hx h), fun x o h => let ⟨o1, h1⟩ := a.al x o h; b.al x o1 h1, fun x o hb h => let ⟨o1, h1⟩ := a.al x o h; b.nw x o1 (a.nw x o hb h) h1⟩
theorem Stp.w (a : Stp W B H B1 H1) (h : ∀ x, x ∈ W → x ∈ W') : Stp W' B H B1 H1 := ⟨a.ex, a.ok, fun x o hx e => a.fr x o (fun z => hx (h x z)) e, a.al, a.nw⟩
theorem Stp.w0 (a : Stp [] B H B1 H1) : Stp W B H B1 H1 := a.w fun _ h => nomatch h
/-- a new object that stays -/
theorem Stp.new (w : Ex B H) (h : H p = none) : Stp W B H (upd B p o) (upd H p o) :=
  ⟨Ex.new (w.none h), w.both, fun a u _ e => Ex.new h a u e, fun a u e => ⟨u, Ex.new h a u e⟩, fun a u hb e => by rw [upd_ne (ne_of_none e h)]; exact hb⟩
/-- a new object that may change -/
theorem Stp.newM (w : Ex B H) (h : H p = none) : Stp W B H B (upd H p o) :=
  ⟨Ex.refl B, w.upd (w.none h), fun a u _ e => Ex.new h a u e, fun a u e => ⟨u, Ex.new h a u e⟩, fun a u hb _ => hb⟩
/-- a changed object of W -/
theorem Stp.set (w : Ex B H) (hp : p ∈ W) (hb : B p = none) {u : HO} (hu : H p = some u) : Stp W B H B (upd H p o) :=
  ⟨Ex.refl B, w.upd hb, fun a u hx e => by rw [upd_ne (fun z => hx (by rw [z]; exact hp))]; exact e, fun a u e => by
    by_cases q : a = p
    · subst q; exact ⟨o, upd_same⟩
    · exact ⟨u, by rw [upd_ne q]; exact e⟩, fun _ _ h _ => h⟩
/-- an object of our own, made behind the entry, changed -/
theorem Stp.own (a : Stp W B H B1 H1) (h0 : H p = none) (hb : B1 p = none) (h : ∃ u, H1 p = some u) : Stp W B H B1 (upd H1 p o) :=
  ⟨a.ex, a.ok.upd hb, fun x u hx e => by rw [upd_ne (ne_of_none e h0)]; exact a.fr x u hx e, fun x u e => by
    rw [upd_ne (ne_of_none e h0)]; exact a.al x u e, a.nw⟩
/-- an object of our own turns into one that stays -/
theorem Stp.keep (w : Ex B H) (a : Stp W B H B1 H1) (h0 : H p = none) (hb : B1 p = none) (h : H1 p = some o) : Stp W B H (upd B1 p o) H1 :=
  ⟨fun x u e => by rw [upd_ne (ne_of_none e (w.none h0))]; exact a.ex x u e, fun x u e => by
    by_cases q : x = p
    · subst q; rw [upd_same] at e; cases e; exact h
    · rw [upd_ne q] at e; exact a.ok x u e, a.fr, a.al, fun x u hb e => by rw [upd_ne (ne_of_none e h0)]; exact a.nw x u hb e⟩
end
/-! ### mirrors -/
/-- an error that is raised: the class's name, what it is told -/
structure Err where
  cls : Str
  args : List D := []
/-- what a mirror gives: a value, an error, or a place that the model does not serve -/
inductive Res (α : Type) where
  | ok (a : α) | err (e : Err) | stuck
def Res.bind {α β : Type} (m : Res α) (k : α → Res β) : Res β := match m with | .ok a => k a | .err e => .err e | .stuck => .stuck
/-- an error that nobody waits for -/
def Res.noErr {α : Type} (m : Res α) : Res α := match m with | .ok a => .ok a | _ => .stuck
instance : Monad Res where
  pure := Res.ok
  bind := Res.bind
def Post0 {α : Type} (m : Res α) (P : α → Prop) (R : Err → Prop) : Prop := match m with | .ok a => P a | .err e => R e | .stuck => False
/-- what the mirror gives is wished for: a structure, so that nothing looks into it -/
structure Post {α : Type} (m : Res α) (P : α → Prop) (R : Err → Prop) : Prop where
  h0 : Post0 m P R
section
variable {α β : Type} {m : Res α} {P P' : α → Prop} {R R' : Err → Prop} {a : α}
theorem Post.mono (h : Post m P R) (hp : ∀ a, P a → P' a) (hr : ∀ e, R e → R' e) : Post m P' R' := by
  obtain ⟨h⟩ := h
  refine ⟨?_⟩
  cases m with
  | ok a => exact hp a h
  | err e => exact hr e h
  | stuck => exact h
theorem Post.bind {k : α → Res β} {P : β → Prop} (h : Post (m.bind k) P R) : Post m (fun a => Post (k a) P R) R := by
  obtain ⟨h⟩ := h
  refine ⟨?_⟩
  cases m
  · exact ⟨h⟩
  · exact h
  · exact h
theorem Post.noErr (h : Post m.noErr P R) : Post m P (fun _ => False) := by
  obtain ⟨h⟩ := h
  refine ⟨?_⟩
  cases m with
  | ok a => exact h
  | err e => exact h
  | stuck => exact h
theorem Post.ok (h : Post (.ok a) P R) : P a := h.h0
theorem Post.err {e : Err} (h : Post (.err e : Res α) P R) : R e := h.h0
theorem Post.elim {C : Prop} (h : Post (.stuck : Res α) P R) : C := False.elim h.h0
theorem Post.mk' (h : P a) : Post (.ok a) P R := ⟨h⟩
theorem Post.iteT {c : Bool} {m m' : Res α} (h : Post (if c = true then m else m') P R) (hc : c = true) : Post m P R := by
  rw [if_pos hc] at h; exact h
theorem Post.iteF {c : Bool} {m m' : Res α} (h : Post (if c = true then m else m') P R) (hc : c = false) : Post m' P R := by
  rw [hc, if_neg Bool.false_ne_true] at h; exact h
theorem Post.is {m' : Res α} (h : Post m P R) (e : m = m') : Post m' P R := e ▸ h
end
/-- an item -/
def ixR {α : Type} (l : List α) (i : Int) : Res α := match atI l i with | some x => .ok x | none => .stuck
theorem Post.ix {α β : Type} {l : List α} {i : Int} {k : α → Res β} {P : β → Prop} {R : Err → Prop} (h : Post ((ixR l i).bind k) P R) : ∃ x, atI l i = some x ∧ Post (k x) P R := by
  unfold ixR at h
  cases e : atI l i with
  | none => rw [e] at h; exact h.elim
  | some x => rw [e] at h; exact ⟨x, rfl, h⟩
/-- where c holds -/
def guardR {α : Type} (c : Prop) [Decidable c] (m : Res α) : Res α := if c then m else .stuck
theorem Post.guard {α : Type} {c : Prop} [Decidable c] {m : Res α} {P : α → Prop} {R : Err → Prop} (h : Post (guardR c m) P R) : c ∧ Post m P R := by
  unfold guardR at h
  by_cases e : c
  · rw [if_pos e] at h; exact ⟨e, h⟩
  · rw [if_neg e] at h; exact h.elim
instance (i j : Int) : Decidable (CMulW i j) := by unfold CMulW; infer_instance
instance (i j : Int) : Decidable (CDivW i j) := by unfold CDivW; infer_instance
/-- a loop's turn: on, or a value that is returned, or out -/
inductive Fl (S R : Type) where
  | nx (s : S) | rt (r : R) | bk (s : S)
def forR {α S R : Type} : List α → S → (α → S → Res (Fl S R)) → Res (Fl S R)
  | [], s, _ => .ok (.nx s)
  | x :: xs, s, f => (f x s).bind fun r => match r with | .nx s' => forR xs s' f | r => .ok r
theorem Post.forS {α S R : Type} {l : List α} {i : Nat} {s : S} {f : α → S → Res (Fl S R)} {P : Fl S R → Prop} {E : Err → Prop} {x : α} (h : Post (forR (l.drop i) s f) P E) (hx : l[i]? = some x) :
    Post (f x s) (fun r => match r with | .nx s' => Post (forR (l.drop (i + 1)) s' f) P E | .rt v => P (.rt v) | .bk s' => P (.bk s')) E := by
  obtain ⟨hi, e⟩ := List.getElem?_eq_some_iff.mp hx
  rw [List.drop_eq_getElem_cons hi, e] at h
  exact (Post.bind h).mono (fun r q => by
    cases r
    · exact q
    · exact q.ok
    · exact q.ok) fun _ q => q
theorem Post.forN {α S R : Type} {l : List α} {i : Nat} {s : S} {f : α → S → Res (Fl S R)} {P : Fl S R → Prop} {E : Err → Prop} (h : Post (forR (l.drop i) s f) P E) (hi : l.length ≤ i) : P (.nx s) := by
  rw [List.drop_eq_nil_of_le hi] at h
  exact h.ok

/-! ### what stands for data -/
class Enc (α : Type) where
  enc : α → D
open Enc (enc)
structure Tp1 (α : Type) where
  a : α
structure Tp2 (α β : Type) where
  a : α
  b : β
structure Tp3 (α β γ : Type) where
  a : α
  b : β
  c : γ
structure Tp4 (α β γ δ : Type) where
  a : α
  b : β
  c : γ
  d : δ
structure Tp5 (α β γ δ ε : Type) where
  a : α
  b : β
  c : γ
  d : δ
  e : ε
instance : Enc Int := ⟨.int⟩
instance : Enc Bool := ⟨.bl⟩
instance : Enc Str := ⟨.str⟩
instance : Enc Unit := ⟨fun _ => .non⟩
instance : Enc D := ⟨id⟩
instance {α : Type} [Enc α] : Enc (List α) := ⟨fun l => .lst (l.map enc)⟩
instance {α : Type} [Enc α] : Enc (Option α) := ⟨fun o => match o with | some x => enc x | none => .non⟩
instance {α : Type} [Enc α] : Enc (Tp1 α) := ⟨fun t => .tup [enc t.a]⟩
instance {α β : Type} [Enc α] [Enc β] : Enc (Tp2 α β) := ⟨fun t => .tup [enc t.a, enc t.b]⟩
instance {α β γ : Type} [Enc α] [Enc β] [Enc γ] : Enc (Tp3 α β γ) := ⟨fun t => .tup [enc t.a, enc t.b, enc t.c]⟩
instance {α β γ δ : Type} [Enc α] [Enc β] [Enc γ] [Enc δ] : Enc (Tp4 α β γ δ) := ⟨fun t => .tup [enc t.a, enc t.b, enc t.c, enc t.d]⟩
instance {α β γ δ ε : Type} [Enc α] [Enc β] [Enc γ] [Enc δ] [Enc ε] : Enc (Tp5 α β γ δ ε) := ⟨fun t => .tup [enc t.a, enc t.b, enc t.c, enc t.d, enc t.e]⟩

/-- a list that may change: at p, outside of what is known for good -/
def Mu (K : PySem.W.Frag) (B H : Hp) (p : Addr) (ds : List D) : Prop := B p = none ∧ ∃ xs, H p = some (.lst xs) ∧ RepL K B xs ds
/-- a list that stands in the written part -/
def KL (K : PySem.W.Frag) (a : Addr) (xs : List V) : Prop := ∃ (o : Obj) (its : Array Value) (n : Nat), K.lookup a = some o ∧ o.cls = .type "list" ∧ o.dict = none ∧ o.data = .seq its n ∧ its.size ≤ sizeLine ∧ Vals xs its.toList
/-- a list that is read: at v now -/
def Bor (K : PySem.W.Frag) (B H : Hp) (W : List Addr) (v : V) (ds : List D) : Prop := ∃ p xs, v = .ref p ∧ ((Rd H p (.lst xs) ∧ p ∉ W) ∨ KL K p xs) ∧ RepL K B xs ds
/-- what a return hands on -/
def Ret (K : PySem.W.Frag) (W : List Addr) (B H : Hp) (d : D) (Q : VK) : Prop := ∀ v B' H', Stp W B H B' H' → Rep K B' v d → Q v H'
/-- .. where the list at p may have changed -/
def RetM (K : PySem.W.Frag) (p : Addr) (B H : Hp) (d : D) (ds : List D) (Q : VK) : Prop := ∀ v B' H', Stp [p] B H B' H' → Mu K B' H' p ds → Rep K B' v d → Q v H'
/-- .. that is raised -/
def Rai (mg : Str → Option Value) (W : List Addr) (B H : Hp) (e : Err) (E : XK) : Prop := ∀ C B' H', mg e.cls = some (.ref C) → Stp W B H B' H' → E (.ref C) none H'
section
variable {K : PySem.W.Frag} {B B' B1 H H' H1 : Hp} {W : List Addr} {p q : Addr} {ds es : List D} {xs : List V} {d : D} {v : V} {Q : VK} {mg : Str → Option Value} {E : XK}
theorem Mu.step (m : Mu K B H p ds) (s : Stp W B H B' H') (h : p ∉ W) : Mu K B' H' p ds := by
  obtain ⟨hb, xs, hp, r⟩ := m
  exact ⟨s.nw p _ hb hp, xs, s.fr p _ h hp, r.mono s.ex⟩
theorem Mu.new (w : Ex B H) (h : H p = none) (r : RepL K B xs ds) : Mu K B (upd H p (.lst xs)) p ds := ⟨w.none h, xs, upd_same, r⟩
theorem Mu.bor (m : Mu K B H p ds) (h : p ∉ W) : Bor K B H W (.ref p) ds := by
  obtain ⟨hb, xs, hp, r⟩ := m
  exact ⟨p, xs, rfl, .inl ⟨.inl hp, h⟩, r⟩
theorem Mu.ne (m : Mu K B H p ds) (h : H q = none) : p ≠ q := by
  obtain ⟨hb, xs, hp, r⟩ := m
  exact ne_of_none hp h
theorem Bor.step (m : Bor K B H W v ds) (s : Stp W B H B' H') : Bor K B' H' W v ds := by
  obtain ⟨p, xs, e, hp, r⟩ := m
  refine ⟨p, xs, e, ?_, r.mono s.ex⟩
  rcases hp with ⟨hp | ⟨o, hp⟩, hw⟩ | hp
  · exact .inl ⟨.inl (s.fr p _ hw hp), hw⟩
  · exact .inl ⟨.inr ⟨o, s.fr p _ hw hp⟩, hw⟩
  · exact .inr hp
theorem Bor.w {W' : List Addr} (m : Bor K B H W v ds) (h : ∀ x, x ∈ W' → x ∈ W) : Bor K B H W' v ds := by
  obtain ⟨p, xs, e, hp, r⟩ := m
  refine ⟨p, xs, e, ?_, r⟩
  rcases hp with ⟨hp, hw⟩ | hp
  · exact .inl ⟨hp, fun z => hw (h p z)⟩
  · exact .inr hp
theorem Bor.sq (m : Bor K B H W v ds) : ∃ p xs, v = .ref p ∧ SqL K H p xs ∧ RepL K B xs ds := by
  obtain ⟨p, xs, e, hp, r⟩ := m
  refine ⟨p, xs, e, ?_, r⟩
  rcases hp with ⟨hp, _⟩ | hp
  · exact .inl hp
  · exact .inr hp
theorem Rep.bor (w : Ex B H) (r : Rep K B v (.lst ds)) (h : ∀ x, x ∈ W → B x = none) : Bor K B H W v ds := by
  cases r with
  | @lst p xs _ hp r =>
    refine ⟨p, xs, rfl, ?_, r⟩
    rcases hp with hp | hp
    · refine .inl ⟨w.rd hp, fun z => ?_⟩
      have e := h p z
      rcases hp with hp | ⟨o, hp⟩
      · rw [hp] at e; cases e
      · rw [hp] at e; cases e
    · exact .inr hp
theorem Rep.bor0 (w : Ex B H) (r : Rep K B v (.lst ds)) : Bor K B H [] v ds := r.bor w (fun _ z => nomatch z)
theorem Rep.sq (w : Ex B H) (r : Rep K B v (.lst ds)) : ∃ p xs, v = .ref p ∧ SqL K H p xs ∧ RepL K B xs ds := by
  cases r with
  | @lst p xs _ hp r => exact ⟨p, xs, rfl, w.l hp, r⟩
theorem Rep.st (w : Ex B H) (r : Rep K B v (.tup ds)) : ∃ p xs, v = .ref p ∧ SqT K H p xs ∧ RepL K B xs ds := by
  cases r with
  | @tup p xs _ hp r => exact ⟨p, xs, rfl, w.t hp, r⟩
theorem Mu.sq (m : Mu K B H p ds) : ∃ xs, H p = some (.lst xs) ∧ SqL K H p xs ∧ RepL K B xs ds := by
  obtain ⟨hb, xs, hp, r⟩ := m
  exact ⟨xs, hp, SqL.of hp, r⟩
theorem Stp.mut (w : Ex B H) (m : Mu K B H p ds) (r : RepL K B xs es) : Stp [p] B H B (upd H p (.lst xs)) ∧ Mu K B (upd H p (.lst xs)) p es := by
  obtain ⟨hb, ys, hp, _⟩ := m
  exact ⟨Stp.set w (by simp) hb hp, hb, xs, upd_same, r⟩
end
/-- the built-in type of a thing -/
def tyD : D → String
  | .non => "NoneType" | .bl _ => "bool" | .int _ => "int" | .str _ => "str" | .lst _ => "list" | .tup _ => "tuple" | .dic _ => "dict"
theorem Rep.ty {K : PySem.W.Frag} {B H : Hp} {v : V} {d : D} (w : Ex B H) (r : Rep K B v d) : TyX K H v (.type (tyD d)) := by
  cases r with
  | non => exact .base .non
  | bl b => exact .base (.bl b)
  | int i => exact .base (.int i)
  | str x => exact .base (.str x)
  | lst h r =>
    rcases h with (h | ⟨o, h⟩) | ⟨o, its, n, h, hc, _⟩
    · exact .base (.lst (w _ _ h))
    · exact .base (.frz (w _ _ h))
    · exact .kList h hc
  | tup h r =>
    rcases h with (h | ⟨o, h⟩) | ⟨o, its, n, h, hc, _⟩
    · exact .base (.tup (w _ _ h))
    · exact .fTuple (w _ _ h)
    · exact .kTuple h hc
  | dic h r => exact .base (.dK (w _ _ h))
def isS (s t : String) : Bool := s == t || (s == "bool" && t == "int")
def isA (t : String) (d : D) : Bool := isS (tyD d) t
theorem kit_tab : ∀ s ∈ ["NoneType", "bool", "int", "str", "list", "tuple", "dict"], ∀ t ∈ ["bool", "int", "str", "list", "tuple", "dict"], kitB s t = some (isS s t) := by decide +kernel
theorem tyD_in (d : D) : tyD d ∈ ["NoneType", "bool", "int", "str", "list", "tuple", "dict"] := by cases d <;> simp [tyD]
/-- isinstance(x, int | bool | str | list | tuple | dict) -/
theorem isi {K : PySem.W.Frag} {B H : Hp} {v : V} {d : D} {t : String} {Q : VK} (w : Ex B H) (r : Rep K B v d) (q : Q (.bl (isA t d)) H) (ht : t ∈ ["bool", "int", "str", "list", "tuple", "dict"] := by simp) : rIsi K [v, .ty t] H Q :=
  ⟨v, .ty t, _, .type t, isA t d, rfl, .ty t, r.ty w, kit_ty (kit_tab _ (tyD_in d) _ ht), q⟩
theorem boot_bool : bootBuiltins "bool" = some (.type "bool") := by decide +kernel
theorem boot_int : bootBuiltins "int" = some (.type "int") := by decide +kernel
theorem boot_str : bootBuiltins "str" = some (.type "str") := by decide +kernel
theorem boot_list : bootBuiltins "list" = some (.type "list") := by decide +kernel
theorem boot_tuple : bootBuiltins "tuple" = some (.type "tuple") := by decide +kernel
theorem boot_dict : bootBuiltins "dict" = some (.type "dict") := by decide +kernel

/-! ### readings, step by step -/
def NwL (xs : List V) (H : Hp) (Q : VK) : Prop := ∀ p, H p = none → Q (.ref p) (upd H p (.lst xs))
def NwT (xs : List V) (H : Hp) (Q : VK) : Prop := ∀ p, H p = none → Q (.ref p) (upd H p (.tup xs))
def NewL (xs : List V) (H : Hp) (Q : VK) : Prop := xs.length ≤ sizeLine ∧ NwL xs H Q
def NewT (xs : List V) (H : Hp) (Q : VK) : Prop := xs.length ≤ sizeLine ∧ NwT xs H Q
section
variable {K : PySem.W.Frag} {σ σ' : L2.St} {H : Hp} {Q : VK} {D' : Ends} {te ta tb tc : TE} {tt tt' : TT} {t u z : TS} {tl : TA} {v x y : V} {i j : Int} {n : Nat} {r r' : R2} {W : List Addr}
theorem h_seq (h : t { D' with nx := u D' } σ H) : tSeq t u D' σ H := h
theorem h_set (h : te σ H fun x H1 => u D' (σ.set n (some x)) H1) : tSeq (tAsg te (gName n)) u D' σ H := h
theorem h_set1 (h : te σ H fun x H1 => D'.nx (σ.set n (some x)) H1) : tAsg te (gName n) D' σ H := h
theorem h_nrm {T : L2.St → Hp → Prop} (h : T σ' H) (e : σ' = σ := by rfl) : T σ H := e ▸ h
theorem h_drop (h : te σ H fun _ H1 => D'.nx σ H1) : tDrop te D' σ H := h
theorem h_ret (h : te σ H D'.rt) : tRet te D' σ H := h
theorem h_if {c : TT} (h : c σ H fun b H1 => if b = true then t D' σ H1 else u D' σ H1) : tIfS c t u D' σ H := h
theorem h_next (h : D'.nx σ H) : tNext D' σ H := h
theorem h_nx {a c d : L2.St → Hp → Prop} {b : VK} (h : a σ H) : (Ends.mk a b c d).nx σ H := h
theorem h_var (e : σ[n]? = some (some v)) (h : Q v H) : tVar n σ H Q := ⟨v, e, h⟩
theorem h_c (h : Q v H) : tC v σ H Q := h
theorem h_op (h : ta σ H fun x H1 => tb σ H1 fun y H2 => r x y H2 Q) : tOp r ta tb σ H Q := h
theorem h_I0 {g : Int → Int → V} (h : Q (g i j) H) : rI0 g (.int i) (.int j) H Q := ⟨i, j, rfl, rfl, h⟩
theorem h_I {C : Int → Int → Prop} {g : Int → Int → V} (c : C i j) (h : Q (g i j) H) : rI C g (.int i) (.int j) H Q := ⟨i, j, rfl, rfl, c, h⟩
theorem h_un {f : V → Hp → VK → Prop} (h : ta σ H fun x H1 => f x H1 Q) : tUn f ta σ H Q := h
theorem h_U {g : Int → V} (h : Q (g i) H) : rU g (.int i) H Q := ⟨i, rfl, h⟩
theorem h_eq (s : scal x y = true) (h : Q (.bl (decide (x = y))) H) : rEq x y H Q := ⟨s, h⟩
theorem h_ne (s : scal x y = true) (h : Q (.bl (!decide (x = y))) H) : rNe x y H Q := ⟨s, h⟩
theorem dec_i : decide (V.int i = V.int j) = decide (i = j) := by simp
theorem dec_b {i j : Bool} : decide (V.bl i = V.bl j) = decide (i = j) := by simp
theorem dec_s {i j : Str} : decide (V.str i = V.str j) = decide (i = j) := by simp
theorem h_eqI (h : Q (.bl (decide (i = j))) H) : rEq (.int i) (.int j) H Q := ⟨rfl, by rw [dec_i]; exact h⟩
theorem h_neI (h : Q (.bl (!decide (i = j))) H) : rNe (.int i) (.int j) H Q := ⟨rfl, by rw [dec_i]; exact h⟩
theorem h_eqS {i j : Str} (h : Q (.bl (decide (i = j))) H) : rEq (.str i) (.str j) H Q := ⟨rfl, by rw [dec_s]; exact h⟩
theorem h_neS {i j : Str} (h : Q (.bl (!decide (i = j))) H) : rNe (.str i) (.str j) H Q := ⟨rfl, by rw [dec_s]; exact h⟩
theorem h_eqB {i j : Bool} (h : Q (.bl (decide (i = j))) H) : rEq (.bl i) (.bl j) H Q := ⟨rfl, by rw [dec_b]; exact h⟩
theorem h_neB {i j : Bool} (h : Q (.bl (!decide (i = j))) H) : rNe (.bl i) (.bl j) H Q := ⟨rfl, by rw [dec_b]; exact h⟩
theorem h_chain (h : ta σ H fun x H1 => tb σ H1 fun y H2 => r x y H2 fun z H3 => ∃ k, z = .bl k ∧ (if k = true then tc σ H3 fun w' H4 => r' y w' H4 Q else Q (.bl false) H3)) : tChain r r' ta tb tc σ H Q := h
theorem h_chk {k : Bool} {A : Prop} {w : V} {f : Bool → Prop} (hw : w = .bl k) (h : f k) : ∃ k, w = .bl k ∧ f k := ⟨k, hw, h⟩
theorem h_and (h : ta σ H fun x H1 => ∃ c, x = .bl c ∧ if c = true then tb σ H1 Q else Q (.bl false) H1) : tAndV ta tb σ H Q := h
theorem h_or (h : ta σ H fun x H1 => ∃ c, x = .bl c ∧ if c = true then Q (.bl true) H1 else tb σ H1 Q) : tOrV ta tb σ H Q := h
theorem h_not (h : ta σ H fun x H1 => ∃ c, x = .bl c ∧ Q (.bl (!c)) H1) : tNotV ta σ H Q := h
theorem h_tand {Q : Bool → Hp → Prop} (h : tt σ H fun c H1 => if c = true then tt' σ H1 Q else Q false H1) : tAnd tt tt' σ H Q := h
theorem h_tor {Q : Bool → Hp → Prop} (h : tt σ H fun c H1 => if c = true then Q true H1 else tt' σ H1 Q) : tOr tt tt' σ H Q := h
theorem h_tnot {Q : Bool → Hp → Prop} (h : tt σ H fun c H1 => Q (!c) H1) : tNot tt σ H Q := h
theorem h_test {Q : Bool → Hp → Prop} (h : te σ H fun x H' => ∃ k, x = .bl k ∧ Q k H') : tTest te σ H Q := h
theorem h_tB {Q : Bool → Hp → Prop} (h : te σ H fun x H' => ∃ k, x = .bl k ∧ Q k H') : tB te σ H Q := h
theorem h_bl {b : Bool} {f : Bool → Prop} (h : f b) : ∃ k, V.bl b = .bl k ∧ f k := ⟨b, rfl, h⟩
theorem h_iteT {A B : Prop} (h : A) : if true = true then A else B := by rw [if_pos rfl]; exact h
theorem h_iteF {A B : Prop} (h : B) : if false = true then A else B := by rw [if_neg Bool.false_ne_true]; exact h
theorem h_ite {b : Bool} {A B : Prop} (h1 : b = true → A) (h2 : b = false → B) : if b = true then A else B := by
  cases b
  · exact h_iteF (h2 rfl)
  · exact h_iteT (h1 rfl)
theorem h_ifE {c : TT} (h : c σ H fun b H1 => if b = true then ta σ H1 Q else tb σ H1 Q) : tIf c ta tb σ H Q := h
theorem h_nil {Q : List V → Hp → Prop} (h : Q [] H) : tNil σ H Q := h
theorem h_cons {Q : List V → Hp → Prop} (h : te σ H fun x H1 => tl σ H1 fun xs H2 => Q (x :: xs) H2) : tCons te tl σ H Q := h
theorem h_cb {f : List V → Hp → VK → Prop} (h : tl σ H fun vs H1 => f vs H1 Q) : tCB f tl σ H Q := h
theorem h_call {sp : Sp} {dvs : List V} {E : XK} (h : tl σ H fun vs H1 => sp (vs ++ dvs) H1 Q E) : tCall sp dvs E tl σ H Q := h
theorem h_callS {sp : Sp} {E : L2.St → XK} (h : tl σ H fun vs H1 => sp vs H1 Q (E σ)) : tCallS sp E tl σ H Q := h
theorem h_tup (h : tl σ H fun xs H1 => NewT xs H1 Q) : tTup tl σ H Q := h
theorem h_lst (h : tl σ H fun xs H1 => NewL xs H1 Q) : tLst tl σ H Q := h
theorem h_ixL {p : Addr} {xs : List V} (s : SqL K H p xs) (e : atI xs i = some v) (h : Q v H) : rIxL K (.ref p) (.int i) H Q := ⟨p, xs, i, v, rfl, rfl, s, e, h⟩
theorem h_ixT {p : Addr} {xs : List V} (s : SqT K H p xs) (e : atI xs i = some v) (h : Q v H) : rIxT K (.ref p) (.int i) H Q := ⟨p, xs, i, v, rfl, rfl, s, e, h⟩
end

section
variable {K : PySem.W.Frag} {σ : L2.St} {B B1 B' H H1 H' B0 H0 : Hp} {Q : VK} {W W' : List Addr} {p q : Addr} {xs ys : List V} {ds es : List D} {v : V} {d : D} {i j : Int} {te ta tb : TE}
theorem h_newL (w : Ex B H) (r : RepL K B xs ds) (h : ∀ p B' H', Stp [] B H B' H' → Rep K B' (.ref p) (.lst ds) → Q (.ref p) H') (hn : xs.length ≤ sizeLine) : NewL xs H Q :=
  ⟨hn, fun p hp => h p _ _ (Stp.new w hp) (.lst (SqL.of upd_same) (r.mono (Ex.new (w.none hp))))⟩
theorem h_newT (w : Ex B H) (r : RepL K B xs ds) (h : ∀ p B' H', Stp [] B H B' H' → Rep K B' (.ref p) (.tup ds) → Q (.ref p) H') (hn : xs.length ≤ sizeLine) : NewT xs H Q :=
  ⟨hn, fun p hp => h p _ _ (Stp.new w hp) (.tup (SqT.of upd_same) (r.mono (Ex.new (w.none hp))))⟩
theorem h_newM (w : Ex B H) (r : RepL K B xs ds) (h : ∀ p H', H p = none → Stp [] B H B H' → Mu K B H' p ds → Q (.ref p) H') (hn : xs.length ≤ sizeLine) : NewL xs H Q :=
  ⟨hn, fun p hp => h p _ hp (Stp.newM w hp) (Mu.new w hp r)⟩
theorem h_nwL (w : Ex B H) (r : RepL K B xs ds) (h : ∀ p B' H', Stp [] B H B' H' → Rep K B' (.ref p) (.lst ds) → Q (.ref p) H') : NwL xs H Q :=
  fun p hp => h p _ _ (Stp.new w hp) (.lst (SqL.of upd_same) (r.mono (Ex.new (w.none hp))))
theorem h_nwT (w : Ex B H) (r : RepL K B xs ds) (h : ∀ p B' H', Stp [] B H B' H' → Rep K B' (.ref p) (.tup ds) → Q (.ref p) H') : NwT xs H Q :=
  fun p hp => h p _ _ (Stp.new w hp) (.tup (SqT.of upd_same) (r.mono (Ex.new (w.none hp))))
theorem h_nwM (w : Ex B H) (r : RepL K B xs ds) (h : ∀ p H', H p = none → Stp [] B H B H' → Mu K B H' p ds → Q (.ref p) H') : NwL xs H Q :=
  fun p hp => h p _ hp (Stp.newM w hp) (Mu.new w hp r)
/-- what was free now was free at the entry -/
theorem Stp.nn (s : Stp W B0 H0 B H) (h : H p = none) : H0 p = none := by
  cases e : H0 p with
  | none => rfl
  | some o => obtain ⟨u, q⟩ := s.al p o e; rw [h] at q; cases q
/-- a step that writes at an object of our own -/
theorem Stp.own2 (a : Stp W B0 H0 B H) (s : Stp [p] B H B' H') (h0 : H0 p = none) : Stp W B0 H0 B' H' :=
  ⟨a.ex.trans s.ex, s.ok, fun x u hx e => s.fr x u (fun z => by
      rw [List.mem_singleton.mp z, h0] at e; cases e) (a.fr x u hx e), fun x u e => let ⟨u1, e1⟩ := a.al x u e; s.al x u1 e1, fun x u hb e => let ⟨u1, e1⟩ := a.al x u e; s.nw x u1 (a.nw x u hb e) e1⟩
theorem nm0 : p ∉ ([] : List Addr) := fun z => nomatch z
theorem nm1 (h : p ≠ q) : p ∉ [q] := fun z => h (List.mem_singleton.mp z)
theorem sub0 : ∀ x, x ∈ ([] : List Addr) → x ∈ W := fun _ z => nomatch z
/-- a list of our own is kept as it is -/
theorem Mu.keep (m : Mu K B H p ds) : ∃ B', Ex B B' ∧ (∀ q, q ≠ p → B q = none → B' q = none) ∧ (∀ W B0 H0, Stp W B0 H0 B H → Ex B0 H0 → H0 p = none → Stp W B0 H0 B' H) ∧ Rep K B' (.ref p) (.lst ds) := by
  obtain ⟨hb, xs, hp, r⟩ := m
  exact ⟨upd B p (.lst xs), Ex.new hb, fun q n e => by rw [upd_ne n]; exact e, fun W B0 H0 st w0 h0 => Stp.keep w0 st h0 hb hp, .lst (SqL.of upd_same) (r.mono (Ex.new hb))⟩
/-- a step that writes at what may be written and at objects of our own -/
theorem Stp.go (a : Stp W B0 H0 B H) (s : Stp W' B H B' H') (h : ∀ p, p ∈ W' → p ∈ W ∨ H0 p = none) : Stp W B0 H0 B' H' :=
  ⟨a.ex.trans s.ex, s.ok, fun x u hx e => s.fr x u (fun z => by
      rcases h x z with q | q
      · exact hx q
      · rw [q] at e; cases e) (a.fr x u hx e), fun x u e => let ⟨u1, e1⟩ := a.al x u e; s.al x u1 e1, fun x u hb e => let ⟨u1, e1⟩ := a.al x u e; s.nw x u1 (a.nw x u hb e) e1⟩
theorem go0 {F : Addr → Prop} : ∀ x, x ∈ ([] : List Addr) → F x := fun _ z => nomatch z
theorem go1 {F : Addr → Prop} (h : F p) : ∀ x, x ∈ [p] → F x := fun x z => by rw [List.mem_singleton.mp z]; exact h
theorem go2 {F : Addr → Prop} (h : F p) (h' : F q) : ∀ x, x ∈ [p, q] → F x := fun x z => by
  rcases List.mem_cons.mp z with e | e
  · rw [e]; exact h
  · rw [List.mem_singleton.mp e]; exact h'
theorem go3 {F : Addr → Prop} {r : Addr} (h : F p) (h' : F q) (h2 : F r) : ∀ x, x ∈ [p, q, r] → F x := fun x z => by
  rcases List.mem_cons.mp z with e | e
  · rw [e]; exact h
  · exact go2 h' h2 x e
theorem go4 {F : Addr → Prop} {r r2 : Addr} (h : F p) (h' : F q) (h2 : F r) (h3 : F r2) : ∀ x, x ∈ [p, q, r, r2] → F x := fun x z => by
  rcases List.mem_cons.mp z with e | e
  · rw [e]; exact h
  · exact go3 h' h2 h3 x e
theorem nm2 {r : Addr} (h : p ≠ q) (h' : p ≠ r) : p ∉ [q, r] := fun z => by
  rcases List.mem_cons.mp z with e | e
  · exact h e
  · exact h' (List.mem_singleton.mp e)
theorem nm3 {r r2 : Addr} (h : p ≠ q) (h' : p ≠ r) (h2 : p ≠ r2) : p ∉ [q, r, r2] := fun z => by
  rcases List.mem_cons.mp z with e | e
  · exact h e
  · exact nm2 h' h2 e
theorem nm4 {r r2 r3 : Addr} (h : p ≠ q) (h' : p ≠ r) (h2 : p ≠ r2) (h3 : p ≠ r3) : p ∉ [q, r, r2, r3] := fun z => by
  rcases List.mem_cons.mp z with e | e
  · exact h e
  · exact nm3 h' h2 h3 e
theorem Mu.kp (m : Mu K B H q es) (e : Ex B B') (k : ∀ q, q ≠ p → B q = none → B' q = none) (n : q ≠ p) : Mu K B' H q es := by
  obtain ⟨hb, xs, hp, r⟩ := m
  exact ⟨k q n hb, xs, hp, r.mono e⟩
theorem RepL.atE {α : Type} [Enc α] {l : List α} {x : α} (r : RepL K B xs (l.map enc)) (h : atI l i = some x) : ∃ v, atI xs i = some v ∧ Rep K B v (enc x) := by
  refine r.at ?_
  unfold atI at h ⊢
  rw [List.length_map]
  cases e : ixN l.length i with
  | none => rw [e] at h; cases h
  | some k =>
    rw [e] at h
    show (l.map enc)[k]? = _
    rw [List.getElem?_map, show l[k]? = some x from h]
    rfl
theorem h_pow {k : Int} (e : i ^ j.toNat = k) (c : CPow i j) (h : Q (.int k) H) : rI CPow (fun i j => .int (i ^ j.toNat)) (.int i) (.int j) H Q := ⟨i, j, rfl, rfl, c, by show Q (.int (i ^ j.toNat)) H; rw [e]; exact h⟩
instance (i j : Int) : Decidable (CPow i j) := by unfold CPow; infer_instance
instance (i j : Int) : Decidable (CMul i j) := by unfold CMul; infer_instance
instance (i j : Int) : Decidable (CDiv i j) := by unfold CDiv; infer_instance
def absI (i : Int) : Int := if i < 0 then -i else i
def b2z (b : Bool) : Int := if b then 1 else 0
theorem h_isB {a b : Bool} (h : Q (.bl (decide (a = b))) H) : rIsB (.bl a) (.bl b) H Q := ⟨a, b, rfl, rfl, h⟩
theorem h_isnotB {a b : Bool} (h : Q (.bl (!decide (a = b))) H) : rNotB (.bl a) (.bl b) H Q := ⟨a, b, rfl, rfl, h⟩
def rLenY (K : PySem.W.Frag) : List V → Hp → VK → Prop := fun xs H Q => ∃ p ys, xs = [.ref p] ∧ (SqL K H p ys ∨ SqT K H p ys) ∧ Q (.int ys.length) H
def rAbsY : List V → Hp → VK → Prop := fun xs H Q => ∃ i, xs = [.int i] ∧ Q (.int (if i < 0 then -i else i)) H
def rIntY : List V → Hp → VK → Prop := fun xs H Q => (∃ i, xs = [.int i] ∧ Q (.int i) H) ∨ ∃ k, xs = [.bl k] ∧ Q (.int (if k then 1 else 0)) H
def rStrY : List V → Hp → VK → Prop := fun xs H Q => ∃ i, xs = [.int i] ∧ i.natAbs.log2 < 1920 ∧ Q (.str (toString i)) H
def rListY (K : PySem.W.Frag) : List V → Hp → VK → Prop := fun xs H Q => ∃ p ys, xs = [.ref p] ∧ (SqL K H p ys ∨ SqT K H p ys) ∧ ∀ l, H l = none → Q (.ref l) (upd H l (.lst ys))
def rTupY (K : PySem.W.Frag) : List V → Hp → VK → Prop := fun xs H Q => ∃ p ys, xs = [.ref p] ∧ ((SqL K H p ys ∧ ∀ l, H l = none → Q (.ref l) (upd H l (.tup ys))) ∨ (SqT K H p ys ∧ Q (.ref p) H))
theorem cr_len {X : Cx} : CallR X (.builtin "len") (rLenY X.K) := call_len_seq
theorem cr_abs {X : Cx} : CallR X (.builtin "abs") rAbsY := call_abs
theorem cr_int {X : Cx} : CallR X (.type "int") rIntY := call_int1
theorem cr_str {X : Cx} : CallR X (.type "str") rStrY := call_str_int
theorem cr_list {X : Cx} : CallR X (.type "list") (rListY X.K) := call_list_of
theorem cr_tuple {X : Cx} : CallR X (.type "tuple") (rTupY X.K) := call_tuple_of
theorem h_len {α : Type} [Enc α] {l : List α} (s : SqL K H p xs) (r : RepL K B xs (l.map enc)) (h : Q (.int l.length) H) : rLenY K [V.ref p] H Q := by
  refine ⟨p, xs, rfl, .inl s, ?_⟩
  rw [show xs.length = l.length from by rw [r.length, List.length_map]]
  exact h
theorem h_lenT (s : SqT K H p xs) (r : RepL K B xs ds) (h : Q (.int ds.length) H) : rLenY K [V.ref p] H Q := by
  refine ⟨p, xs, rfl, .inr s, ?_⟩
  rw [r.length]
  exact h
theorem h_abs (h : Q (.int (absI i)) H) : rAbsY [V.int i] H Q := ⟨i, rfl, h⟩
theorem h_intB {b : Bool} (h : Q (.int (b2z b)) H) : rIntY [V.bl b] H Q := .inr ⟨b, rfl, h⟩
theorem h_intI (h : Q (.int i) H) : rIntY [V.int i] H Q := .inl ⟨i, rfl, h⟩
theorem h_str (c : i.natAbs.log2 < 1920) (h : Q (.str (toString i)) H) : rStrY [V.int i] H Q := ⟨i, rfl, c, h⟩
theorem h_listL (s : SqL K H p xs) (h : NwL xs H Q) : rListY K [V.ref p] H Q := ⟨p, xs, rfl, .inl s, h⟩
theorem h_listT (s : SqT K H p xs) (h : NwL xs H Q) : rListY K [V.ref p] H Q := ⟨p, xs, rfl, .inr s, h⟩
theorem h_tupL (s : SqL K H p xs) (h : NwT xs H Q) : rTupY K [V.ref p] H Q := ⟨p, xs, rfl, .inl ⟨s, h⟩⟩
theorem h_iteN {b : Bool} {A C : Prop} (h1 : b = false → A) (h2 : b = true → C) : if (!b) = true then A else C := by
  cases b
  · exact h_iteT (h1 rfl)
  · exact h_iteF (h2 rfl)
theorem h_iteNT {A C : Prop} (h : C) : if (!true) = true then A else C := h_iteF h
theorem h_iteNF {A C : Prop} (h : A) : if (!false) = true then A else C := h_iteT h
theorem Post.iteTn {α : Type} {m m' : Res α} {P : α → Prop} {R : Err → Prop} {c : Bool} (h : Post (if (!c) = true then m else m') P R) (hc : c = false) : Post m P R := by
  rw [hc] at h; exact h
theorem Post.iteFn {α : Type} {m m' : Res α} {P : α → Prop} {R : Err → Prop} {c : Bool} (h : Post (if (!c) = true then m else m') P R) (hc : c = true) : Post m' P R := by
  rw [hc] at h; exact h
end

/-! ### joins, loops, comprehensions, in step with the mirror -/
section
variable {K : PySem.W.Frag} {σ : L2.St} {B B1 B' H H1 H' B0 H0 : Hp} {Q : VK} {W W' : List Addr} {p q : Addr} {xs ys : List V} {ds es : List D} {v : V} {d : D} {t z tb : TS} {te : TE} {c tt : TT} {D' : Ends} {g : TG} {ti : TI}
variable {α β S R' : Type} {P : β → Prop} {R : Err → Prop}
theorem h_joinS {m : Res α} {k : α → Res β} (hP : Post (m.bind k) P R) (J : α → L2.St → Hp → Prop)
    (h1 : ∀ N : L2.St → Hp → Prop, (∀ a σ' H', J a σ' H' → Post (k a) P R → N σ' H') → Post m (fun a => Post (k a) P R) R → t { D' with nx := N } σ H)
    (h2 : ∀ a σ' H', J a σ' H' → Post (k a) P R → z D' σ' H') : tSeq t z D' σ H := h1 _ h2 hP.bind
theorem h_condJ {m : Res Bool} {k : Bool → Res β} {Qb : Bool → Hp → Prop} (hP : Post (m.bind k) P R) (J : Hp → Prop)
    (h1 : ∀ N : Bool → Hp → Prop, (∀ b H', J H' → Post (k b) P R → N b H') → Post m (fun b => Post (k b) P R) R → c σ H N)
    (h2 : ∀ b H', J H' → Post (k b) P R → Qb b H') : c σ H Qb := h1 _ h2 hP.bind
theorem h_exprJ {m : Res α} {k : α → Res β} (hP : Post (m.bind k) P R) (J : α → V → Hp → Prop)
    (h1 : ∀ N : VK, (∀ a v H', J a v H' → Post (k a) P R → N v H') → Post m (fun a => Post (k a) P R) R → te σ H N)
    (h2 : ∀ a v H', J a v H' → Post (k a) P R → Q v H') : te σ H Q := h1 _ h2 hP.bind
theorem h_gname {n : Nat} {Q : L2.St → Hp → Prop} (h : Q (σ.set n (some v)) H) : gName n v σ H Q := h
/-- behind a loop -/
def afterR (k : S → Res β) : Fl S β → Res β
  | .nx s => k s | .rt r => .ok r | .bk s => k s
/-- a join of ways of which some end the def (or the turn) -/
theorem h_joinF {m : Res (Fl S β)} {k : S → Res β} (hP : Post (m.bind (afterR k)) P R) (J : S → L2.St → Hp → Prop)
    (h1 : ∀ (N : L2.St → Hp → Prop) (T : Fl S β → Prop), (∀ a σ' H', J a σ' H' → T (.nx a) → N σ' H') → (∀ r, T (.rt r) → P r) → Post m T R → t { D' with nx := N } σ H)
    (h2 : ∀ a σ' H', J a σ' H' → Post (k a) P R → z D' σ' H') : tSeq t z D' σ H :=
  h1 _ (fun a => Post (afterR k a) P R) (fun a σ' H' j q => h2 a σ' H' j q) (fun _ q => (q : Post (.ok _) P R).ok) hP.bind
/-- what a turn hands on -/
def turnR (l : List α) (f : α → S → Res (Fl S R')) (i : Nat) (P : Fl S R' → Prop) (R : Err → Prop) : Fl S R' → Prop
  | .nx s => Post (forR (l.drop i) s f) P R | .rt r => P (.rt r) | .bk s => P (.bk s)
theorem Post.turn {l : List α} {i : Nat} {s : S} {f : α → S → Res (Fl S R')} {P : Fl S R' → Prop} {x : α} (h : Post (forR (l.drop i) s f) P R) (hx : l[i]? = some x) : Post (f x s) (turnR l f (i + 1) P R) R :=
  (Post.forS h hx).mono (fun r q => by cases r <;> exact q) fun _ q => q

theorem h_forE (h : te σ H fun x H1 => tFor (iList K (tC x)) g tb D' σ H1) : tFor (iList K te) g tb D' σ H := h
theorem h_forL [Enc α] {l : List α} {s0 : S} {f : α → S → Res (Fl S β)} {k : S → Res β} (hP : Post ((forR l s0 f).bind (afterR k)) P R) (hs : SqL K H p xs) (hr : RepL K B xs (l.map enc))
    (J : S → L2.St → Hp → Prop) (h0 : J s0 σ H) (hl : ∀ s σ' H', J s σ' H' → SqL K H' p xs)
    (hb : ∀ (N : L2.St → Hp → Prop) (T : Fl S β → Prop) (x : α) v s σ' H', J s σ' H' → Rep K B v (enc x) → (∀ s' σ2 H2, J s' σ2 H2 → T (.nx s') → N σ2 H2) → (∀ r, T (.rt r) → P r) → (∀ s' σ2 H2, J s' σ2 H2 → T (.bk s') → D'.nx σ2 H2) → Post (f x s) T R →
      g v σ' H' fun σ2 H2 => tb { D' with nx := N, ct := N, bk := D'.nx } σ2 H2)
    (hd : ∀ s σ' H', J s σ' H' → Post (k s) P R → D'.nx σ' H') : tFor (iList K (tC (.ref p))) g tb D' σ H := by
  refine ⟨p, rfl, ⟨xs, hs⟩, for_list (K := K) (a := p) (xs := xs) (fun i σ' H' => ∃ s, J s σ' H' ∧ Post (forR (l.drop i) s f) (fun a => Post (afterR k a) P R) R) ⟨s0, h0, hP.bind⟩ (fun i σ' H' _ ⟨s, j, _⟩ => hl s σ' H' j) ?_ ?_⟩
  · rintro i y σ' H' hi ⟨s, j, q⟩
    obtain ⟨x, hx⟩ : ∃ x, l[i]? = some x := by
      have h1 := (List.getElem?_eq_some_iff.mp hi).1
      rw [hr.length, List.length_map] at h1
      exact ⟨l[i], List.getElem?_eq_getElem h1⟩
    obtain ⟨u, hu, ru⟩ := hr.get (i := i) (d := enc x) (by rw [List.getElem?_map, hx]; rfl)
    rw [hi] at hu; cases hu
    exact hb _ _ x y s σ' H' j ru (fun s' σ2 H2 j2 t2 => ⟨s', j2, t2⟩) (fun r t2 => (t2 : Post (.ok r) P R).ok) (fun s' σ2 H2 j2 t2 => hd s' σ2 H2 j2 t2) (q.turn hx)
  · rintro σ' H' ⟨s, j, q⟩
    exact hd s σ' H' j (q.forN (by rw [hr.length, List.length_map]; exact Nat.le_refl _))
theorem h_forTE (h : te σ H fun x H1 => tFor (iTup K (tC x)) g tb D' σ H1) : tFor (iTup K te) g tb D' σ H := h
theorem h_forT [Enc α] {l : List α} {s0 : S} {f : α → S → Res (Fl S β)} {k : S → Res β} (hP : Post ((forR l s0 f).bind (afterR k)) P R) (hs : SqT K H p xs) (hr : RepL K B xs (l.map enc))
    (J : S → L2.St → Hp → Prop) (h0 : J s0 σ H) (hl : ∀ s σ' H', J s σ' H' → SqT K H' p xs)
    (hb : ∀ (N : L2.St → Hp → Prop) (T : Fl S β → Prop) (x : α) v s σ' H', J s σ' H' → Rep K B v (enc x) → (∀ s' σ2 H2, J s' σ2 H2 → T (.nx s') → N σ2 H2) → (∀ r, T (.rt r) → P r) → (∀ s' σ2 H2, J s' σ2 H2 → T (.bk s') → D'.nx σ2 H2) → Post (f x s) T R →
      g v σ' H' fun σ2 H2 => tb { D' with nx := N, ct := N, bk := D'.nx } σ2 H2)
    (hd : ∀ s σ' H', J s σ' H' → Post (k s) P R → D'.nx σ' H') : tFor (iTup K (tC (.ref p))) g tb D' σ H := by
  refine ⟨p, rfl, ⟨xs, hs⟩, for_tup (K := K) (a := p) (xs := xs) (fun i σ' H' => ∃ s, J s σ' H' ∧ Post (forR (l.drop i) s f) (fun a => Post (afterR k a) P R) R) ⟨s0, h0, hP.bind⟩ (fun i σ' H' _ ⟨s, j, _⟩ => hl s σ' H' j) ?_ ?_⟩
  · rintro i y σ' H' hi ⟨s, j, q⟩
    obtain ⟨x, hx⟩ : ∃ x, l[i]? = some x := by
      have h1 := (List.getElem?_eq_some_iff.mp hi).1
      rw [hr.length, List.length_map] at h1
      exact ⟨l[i], List.getElem?_eq_getElem h1⟩
    obtain ⟨u, hu, ru⟩ := hr.get (i := i) (d := enc x) (by rw [List.getElem?_map, hx]; rfl)
    rw [hi] at hu; cases hu
    exact hb _ _ x y s σ' H' j ru (fun s' σ2 H2 j2 t2 => ⟨s', j2, t2⟩) (fun r t2 => (t2 : Post (.ok r) P R).ok) (fun s' σ2 H2 j2 t2 => hd s' σ2 H2 j2 t2) (q.turn hx)
  · rintro σ' H' ⟨s, j, q⟩
    exact hd s σ' H' j (q.forN (by rw [hr.length, List.length_map]; exact Nat.le_refl _))
/-- the ints from lo on, below hi -/
def rngI (lo hi : Int) : List Int := (List.range (hi - lo).toNat).map fun (i : Nat) => lo + (i : Int)
theorem rngI_get {lo hi : Int} {i : Nat} (h : i < (hi - lo).toNat) : (rngI lo hi)[i]? = some (lo + (i : Int)) := by
  unfold rngI
  rw [List.getElem?_map, List.getElem?_range h]
  rfl
theorem rngI_len {lo hi : Int} : (rngI lo hi).length = (hi - lo).toNat := by
  unfold rngI
  rw [List.length_map, List.length_range]
def Rng1 (vs : List V) (g : TG) (tb : TS) (D' : Ends) (σ : L2.St) (H : Hp) : Prop := tFor (iRng1 (fun _ H Q => Q vs H)) g tb D' σ H
def Rng2 (vs : List V) (g : TG) (tb : TS) (D' : Ends) (σ : L2.St) (H : Hp) : Prop := tFor (iRng2 (fun _ H Q => Q vs H)) g tb D' σ H
theorem h_rng1 {ta : TA} (h : ta σ H fun vs H1 => Rng1 vs g tb D' σ H1) : tFor (iRng1 ta) g tb D' σ H := h
theorem h_rng2 {ta : TA} (h : ta σ H fun vs H1 => Rng2 vs g tb D' σ H1) : tFor (iRng2 ta) g tb D' σ H := h
theorem forRng {lo hi : Int} {s0 : S} {f : Int → S → Res (Fl S β)} {k : S → Res β} (hP : Post ((forR (rngI lo hi) s0 f).bind (afterR k)) P R)
    (J : S → L2.St → Hp → Prop) (h0 : J s0 σ H)
    (hb : ∀ (N : L2.St → Hp → Prop) (T : Fl S β → Prop) (x : Int) s σ' H', J s σ' H' → lo ≤ x → x < hi → (∀ s' σ2 H2, J s' σ2 H2 → T (.nx s') → N σ2 H2) → (∀ r, T (.rt r) → P r) → (∀ s' σ2 H2, J s' σ2 H2 → T (.bk s') → D'.nx σ2 H2) → Post (f x s) T R →
      g (.int x) σ' H' fun σ2 H2 => tb { D' with nx := N, ct := N, bk := D'.nx } σ2 H2)
    (hd : ∀ s σ' H', J s σ' H' → Post (k s) P R → D'.nx σ' H') :
    ∃ W : Nat → Nat → L2.St → Hp → Prop, (∃ m, W 0 m σ H) ∧ ∀ i m σ H, W i m σ H →
      ((Itr lo (hi - lo).toNat).stop i H ∧ D'.nx σ H) ∨ ((Itr lo (hi - lo).toNat).go i H ∧ ∃ N : L2.St → Hp → Prop, (∀ σ' H', N σ' H' → ∃ m', m' < m ∧ W (i + 1) m' σ' H') ∧ ∀ x H', (Itr lo (hi - lo).toNat).yld i H x H' → g x σ H' fun σ2 H2 => tb { D' with nx := N, ct := N, bk := D'.nx } σ2 H2) := by
  refine for_range (lo := lo) (n := (hi - lo).toNat) (fun i σ' H' => ∃ s, J s σ' H' ∧ Post (forR ((rngI lo hi).drop i) s f) (fun a => Post (afterR k a) P R) R) ⟨s0, h0, hP.bind⟩ ?_ ?_
  · rintro i σ' H' hi' ⟨s, j, q⟩
    exact hb _ _ (lo + (i : Int)) s σ' H' j (by omega) (by omega) (fun s' σ2 H2 j2 t2 => ⟨s', j2, t2⟩) (fun r t2 => (t2 : Post (.ok r) P R).ok) (fun s' σ2 H2 j2 t2 => hd s' σ2 H2 j2 t2) (q.turn (rngI_get hi'))
  · rintro σ' H' ⟨s, j, q⟩
    exact hd s σ' H' j (q.forN (by rw [rngI_len]; exact Nat.le_refl _))
theorem h_forR1 {hi : Int} {s0 : S} {f : Int → S → Res (Fl S β)} {k : S → Res β} (hP : Post ((forR (rngI 0 hi) s0 f).bind (afterR k)) P R) (hz : -(2 ^ 62) ≤ hi ∧ hi < 2 ^ 62)
    (J : S → L2.St → Hp → Prop) (h0 : J s0 σ H)
    (hb : ∀ (N : L2.St → Hp → Prop) (T : Fl S β → Prop) (x : Int) s σ' H', J s σ' H' → 0 ≤ x → x < hi → (∀ s' σ2 H2, J s' σ2 H2 → T (.nx s') → N σ2 H2) → (∀ r, T (.rt r) → P r) → (∀ s' σ2 H2, J s' σ2 H2 → T (.bk s') → D'.nx σ2 H2) → Post (f x s) T R →
      g (.int x) σ' H' fun σ2 H2 => tb { D' with nx := N, ct := N, bk := D'.nx } σ2 H2)
    (hd : ∀ s σ' H', J s σ' H' → Post (k s) P R → D'.nx σ' H') : Rng1 [.int hi] g tb D' σ H := by
  have q := forRng hP J h0 hb hd
  rw [Int.sub_zero] at q
  exact ⟨hi, rfl, hz.1, hz.2, q⟩
theorem h_forR2 {lo hi : Int} {s0 : S} {f : Int → S → Res (Fl S β)} {k : S → Res β} (hP : Post ((forR (rngI lo hi) s0 f).bind (afterR k)) P R) (hz : (-(2 ^ 62) ≤ lo ∧ lo < 2 ^ 62) ∧ -(2 ^ 62) ≤ hi ∧ hi < 2 ^ 62)
    (J : S → L2.St → Hp → Prop) (h0 : J s0 σ H)
    (hb : ∀ (N : L2.St → Hp → Prop) (T : Fl S β → Prop) (x : Int) s σ' H', J s σ' H' → lo ≤ x → x < hi → (∀ s' σ2 H2, J s' σ2 H2 → T (.nx s') → N σ2 H2) → (∀ r, T (.rt r) → P r) → (∀ s' σ2 H2, J s' σ2 H2 → T (.bk s') → D'.nx σ2 H2) → Post (f x s) T R →
      g (.int x) σ' H' fun σ2 H2 => tb { D' with nx := N, ct := N, bk := D'.nx } σ2 H2)
    (hd : ∀ s σ' H', J s σ' H' → Post (k s) P R → D'.nx σ' H') : Rng2 [.int lo, .int hi] g tb D' σ H :=
  ⟨lo, hi, rfl, ⟨hz.1.1, hz.1.2, hz.2.1, hz.2.2⟩, forRng hP J h0 hb hd⟩

/-! comprehensions -/
def compL : List α → S → (α → S → Res (Option R' × S)) → Res (List R' × S)
  | [], s, _ => .ok ([], s)
  | x :: xs, s, f => (f x s).bind fun r => (compL xs r.2 f).bind fun q => .ok (match r.1 with | some b => b :: q.1 | none => q.1, q.2)
def compR (l : List α) (s : S) (f : α → S → Res (Option R' × S)) : Res (List R' × S) := guardR (l.length ≤ 1000000) (compL l s f)
def compT (l : List α) (f : α → S → Res (Option R' × S)) (k : List R' × S → Res β) (acc : List R') (P : β → Prop) (R : Err → Prop) : Option R' × S → Prop
  | (some b, s) => Post ((compL l s f).bind fun q => k (acc ++ [b] ++ q.1, q.2)) P R
  | (none, s) => Post ((compL l s f).bind fun q => k (acc ++ q.1, q.2)) P R
theorem Post.compS {l : List α} {i : Nat} {s : S} {f : α → S → Res (Option R' × S)} {k : List R' × S → Res β} {acc : List R'} {x : α} (h : Post ((compL (l.drop i) s f).bind fun q => k (acc ++ q.1, q.2)) P R) (hx : l[i]? = some x) :
    Post (f x s) (compT (l.drop (i + 1)) f k acc P R) R := by
  obtain ⟨hi, e⟩ := List.getElem?_eq_some_iff.mp hx
  rw [List.drop_eq_getElem_cons hi, e] at h
  have h2 := (Post.bind (Post.bind h))
  refine h2.mono (fun r q => ?_) fun _ q => q
  obtain ⟨o, s'⟩ := r
  cases o with
  | some b =>
    show Post ((compL (l.drop (i + 1)) s' f).bind fun q => k (acc ++ [b] ++ q.1, q.2)) P R
    have q1 : Post ((compL (l.drop (i + 1)) s' f).bind fun q => .ok (b :: q.1, q.2)) (fun a => Post (k (acc ++ a.1, a.2)) P R) R := q
    generalize compL (l.drop (i + 1)) s' f = m at q1 ⊢
    cases m with
    | ok a =>
      have q2 : Post (k (acc ++ (b :: a.1), a.2)) P R := q1.ok
      show Post (k (acc ++ [b] ++ a.1, a.2)) P R
      rw [List.append_assoc]
      exact q2
    | err e => exact ⟨q1.h0⟩
    | stuck => exact ⟨q1.h0⟩
  | none =>
    show Post ((compL (l.drop (i + 1)) s' f).bind fun q => k (acc ++ q.1, q.2)) P R
    have q1 : Post ((compL (l.drop (i + 1)) s' f).bind fun q => .ok (q.1, q.2)) (fun a => Post (k (acc ++ a.1, a.2)) P R) R := q
    generalize compL (l.drop (i + 1)) s' f = m at q1 ⊢
    cases m
    · exact q1.ok
    · exact ⟨q1.h0⟩
    · exact ⟨q1.h0⟩
theorem h_app1 [Enc α] {l : List α} {b : α} {y : V} {N : Hp → Prop} (w : Ex B H) (m : Mu K B H p (l.map enc)) (r : Rep K B y (enc b)) (hz : l.length < sizeLine) (h : ∀ H', Stp [p] B H B H' → Mu K B H' p ((l ++ [b]).map enc) → N H') :
    ∃ acc, H p = some (.lst acc) ∧ acc.length < sizeLine ∧ N (upd H p (.lst (acc ++ [y]))) := by
  obtain ⟨hb, xs, hp, hr⟩ := id m
  refine ⟨xs, hp, by rw [hr.length, List.length_map]; exact hz, ?_⟩
  have rl : RepL K B (xs ++ [y]) ((l ++ [b]).map enc) := by
    rw [List.map_append]
    exact hr.append (.cons r .nil)
  obtain ⟨s, m'⟩ := Stp.mut w m rl
  exact h _ s m'
def LcL (K : PySem.W.Frag) (v : V) (g : TG) (tt : TT) (te : TE) (vs : List Nat) (σ : L2.St) (H : Hp) (Q : VK) : Prop := tLc (iList K (tC v)) g tt te vs σ H Q
theorem h_lcE {vs : List Nat} {tl : TE} (h : tl σ H fun x H1 => LcL K x g tt te vs σ H1 Q) : tLc (iList K tl) g tt te vs σ H Q := h
def LcT (σ : L2.St) (vs : List Nat) (tt : TT) (te : TE) (Dl : Addr) (N : Hp → Prop) : L2.St → Hp → Prop := fun σ2 H2 => wipe σ2 vs = wipe σ vs ∧ tt σ2 H2 fun b H3 =>
  if b = true then te σ2 H3 fun y H4 => ∃ acc, H4 Dl = some (.lst acc) ∧ acc.length < sizeLine ∧ N (upd H4 Dl (.lst (acc ++ [y]))) else N H3
def App (Dl : Addr) (N : Hp → Prop) : VK := fun y H4 => ∃ acc, H4 Dl = some (.lst acc) ∧ acc.length < sizeLine ∧ N (upd H4 Dl (.lst (acc ++ [y])))
theorem h_lcT {vs : List Nat} {Dl : Addr} {N : Hp → Prop} {σ2 : L2.St} (e : wipe σ2 vs = wipe σ vs) (h : te σ2 H (App Dl N)) : LcT σ vs tYes te Dl N σ2 H := ⟨e, h⟩
theorem h_lcI {vs : List Nat} {Dl : Addr} {N : Hp → Prop} {σ2 : L2.St} (e : wipe σ2 vs = wipe σ vs) (h : tt σ2 H fun b H3 => if b = true then te σ2 H3 (App Dl N) else N H3) : LcT σ vs tt te Dl N σ2 H := ⟨e, h⟩
theorem h_app [Enc α] {l : List α} {b : α} {y : V} {N : Hp → Prop} (w : Ex B H) (m : Mu K B H p (l.map enc)) (r : Rep K B y (enc b)) (hz : l.length < sizeLine) (h : ∀ H', Stp [p] B H B H' → Mu K B H' p ((l ++ [b]).map enc) → N H') : App p N y H := h_app1 w m r hz h
theorem h_lcL [Enc α] {l : List α} {s0 : S} {f : α → S → Res (Option R' × S)} {k : List R' × S → Res β} {vs : List Nat} (hP : Post ((compR l s0 f).bind k) P R) (hs : SqL K H p xs) (hr : RepL K B xs (l.map enc))
    (J : Addr → List R' → S → Hp → Prop) (h0 : ∀ Dl, H Dl = none → J Dl [] s0 (upd H Dl (.lst []))) (hl : ∀ Dl acc s H', J Dl acc s H' → SqL K H' p xs)
    (hb : ∀ (Dl : Addr) (N : Hp → Prop) (T : Option R' × S → Prop) (x : α) v acc s H', J Dl acc s H' → Rep K B v (enc x) → acc.length < sizeLine → (∀ b s' H2, J Dl (acc ++ [b]) s' H2 → T (some b, s') → N H2) → (∀ s' H2, J Dl acc s' H2 → T (none, s') → N H2) → Post (f x s) T R →
      g v (wipe σ vs) H' (LcT σ vs tt te Dl N))
    (hd : ∀ Dl acc s H', J Dl acc s H' → Post (k (acc, s)) P R → Q (.ref Dl) H') : LcL K (.ref p) g tt te vs σ H Q := by
  refine ⟨p, rfl, ⟨xs, hs⟩, fun Dl hD => ?_⟩
  unfold compR at hP
  have hz : l.length ≤ 1000000 := by
    by_cases c : l.length ≤ 1000000
    · exact c
    · unfold guardR at hP; rw [if_neg c] at hP; exact hP.elim
  unfold guardR at hP
  rw [if_pos hz] at hP
  refine lc_list (K := K) (a := p) (xs := xs) (fun i H' => ∃ acc s, J Dl acc s H' ∧ acc.length ≤ i ∧ Post ((compL (l.drop i) s f).bind fun q => k (acc ++ q.1, q.2)) P R) ⟨[], s0, h0 Dl hD, Nat.le_refl _, hP⟩ (fun i H' _ ⟨acc, s, j, _⟩ => hl Dl acc s H' j) ?_ ?_
  · rintro i y H' hi ⟨acc, s, j, hn, q⟩
    have h1 := (List.getElem?_eq_some_iff.mp hi).1
    rw [hr.length, List.length_map] at h1
    obtain ⟨x, hx⟩ : ∃ x, l[i]? = some x := ⟨l[i], List.getElem?_eq_getElem h1⟩
    obtain ⟨u, hu, ru⟩ := hr.get (i := i) (d := enc x) (by rw [List.getElem?_map, hx]; rfl)
    rw [hi] at hu; cases hu
    exact hb Dl _ _ x y acc s H' j ru (Nat.lt_of_le_of_lt (Nat.le_trans hn (Nat.le_trans (Nat.le_of_lt h1) hz)) (by decide)) (fun b s' H2 j2 t2 => ⟨acc ++ [b], s', j2, by rw [List.length_append]; exact Nat.succ_le_succ hn, t2⟩) (fun s' H2 j2 t2 => ⟨acc, s', j2, Nat.le_succ_of_le hn, t2⟩) (q.compS hx)
  · rintro H' ⟨acc, s, j, _, q⟩
    rw [hr.length, List.length_map, List.drop_eq_nil_of_le (Nat.le_refl _)] at q
    have q2 : Post (k (acc ++ [], s)) P R := q
    rw [List.append_nil] at q2
    exact hd Dl acc s H' j q2
def LcR1 (ws : List V) (g : TG) (tt : TT) (te : TE) (vs : List Nat) (σ : L2.St) (H : Hp) (Q : VK) : Prop := tLc (iRng1 (fun _ H Q => Q ws H)) g tt te vs σ H Q
theorem h_lcR1E {vs : List Nat} {ta : TA} (h : ta σ H fun ws H1 => LcR1 ws g tt te vs σ H1 Q) : tLc (iRng1 ta) g tt te vs σ H Q := h
theorem h_lcR1 {hi : Int} {s0 : S} {f : Int → S → Res (Option R' × S)} {k : List R' × S → Res β} {vs : List Nat} (hP : Post ((compR (rngI 0 hi) s0 f).bind k) P R)
    (J : Addr → List R' → S → Hp → Prop) (h0 : ∀ Dl, H Dl = none → J Dl [] s0 (upd H Dl (.lst [])))
    (hb : ∀ (Dl : Addr) (N : Hp → Prop) (T : Option R' × S → Prop) (x : Int) acc s H', J Dl acc s H' → 0 ≤ x → x < hi → acc.length < sizeLine → (∀ b s' H2, J Dl (acc ++ [b]) s' H2 → T (some b, s') → N H2) → (∀ s' H2, J Dl acc s' H2 → T (none, s') → N H2) → Post (f x s) T R →
      g (.int x) (wipe σ vs) H' (LcT σ vs tt te Dl N))
    (hd : ∀ Dl acc s H', J Dl acc s H' → Post (k (acc, s)) P R → Q (.ref Dl) H') (hlo : -(2 ^ 62) ≤ hi) : LcR1 [.int hi] g tt te vs σ H Q := by
  unfold compR at hP
  have hz : (rngI 0 hi).length ≤ 1000000 := by
    by_cases c : (rngI 0 hi).length ≤ 1000000
    · exact c
    · unfold guardR at hP; rw [if_neg c] at hP; exact hP.elim
  unfold guardR at hP
  rw [if_pos hz] at hP
  rw [rngI_len, Int.sub_zero] at hz
  refine ⟨hi, rfl, hlo, by omega, fun Dl hD => ?_⟩
  refine lc_range (lo := 0) (n := hi.toNat) (fun i H' => ∃ acc s, J Dl acc s H' ∧ acc.length ≤ i ∧ Post ((compL ((rngI 0 hi).drop i) s f).bind fun q => k (acc ++ q.1, q.2)) P R) ⟨[], s0, h0 Dl hD, Nat.le_refl _, hP⟩ ?_ ?_
  · rintro i H' hi' ⟨acc, s, j, hn, q⟩
    have hx := rngI_get (lo := 0) (hi := hi) (i := i) (by omega)
    have e : (0 : Int) + (i : Int) = (i : Int) := Int.zero_add _
    exact hb Dl _ _ (0 + (i : Int)) acc s H' j (by omega) (by omega) (Nat.lt_of_le_of_lt (Nat.le_trans hn (Nat.le_trans (Nat.le_of_lt hi') hz)) (by decide)) (fun b s' H2 j2 t2 => ⟨acc ++ [b], s', j2, by rw [List.length_append]; exact Nat.succ_le_succ hn, t2⟩) (fun s' H2 j2 t2 => ⟨acc, s', j2, Nat.le_succ_of_le hn, t2⟩) (q.compS hx)
  · rintro H' ⟨acc, s, j, _, q⟩
    rw [List.drop_eq_nil_of_le (by rw [rngI_len]; omega)] at q
    have q2 : Post (k (acc ++ [], s)) P R := q
    rw [List.append_nil] at q2
    exact hd Dl acc s H' j q2
end

section
variable {K : PySem.W.Frag} {B B' H H' B0 H0 : Hp} {W : List Addr} {p : Addr} {xs : List V} {ds : List D} {v : V} {a b c d : L2.St → Hp → Prop} {rt : VK} {σ : L2.St}
theorem Rep.sqB (r : Rep K B v (.lst ds)) : ∃ p xs, v = .ref p ∧ SqL K B p xs ∧ RepL K B xs ds := by
  cases r with
  | @lst p xs _ hp r => exact ⟨p, xs, rfl, hp, r⟩
theorem Rep.stB (r : Rep K B v (.tup ds)) : ∃ p xs, v = .ref p ∧ SqT K B p xs ∧ RepL K B xs ds := by
  cases r with
  | @tup p xs _ hp r => exact ⟨p, xs, rfl, hp, r⟩
theorem Bor.sq0 (m : Bor K B0 H0 W v ds) : ∃ p xs, v = .ref p ∧ RepL K B0 xs ds ∧ ∀ B' H', Stp W B0 H0 B' H' → SqL K H' p xs := by
  obtain ⟨p, xs, e, hp, r⟩ := m
  refine ⟨p, xs, e, r, fun B' H' s => ?_⟩
  rcases hp with ⟨hp | ⟨o, hp⟩, hw⟩ | hp
  · exact .inl (.inl (s.fr p _ hw hp))
  · exact .inl (.inr ⟨o, s.fr p _ hw hp⟩)
  · exact .inr hp
theorem h_ct (h : d σ H) : tCont (Ends.mk a rt b d) σ H := h
theorem h_bk (h : b σ H) : tBreak (Ends.mk a rt b d) σ H := h
end

/-! ### lists that change -/
def setR {α : Type} (l : List α) (i : Int) (x : α) : Res (List α) := match ixN l.length i with | some j => .ok (l.set j x) | none => .stuck
def Bm (K : PySem.W.Frag) (T : String) (r : V → List V → Hp → VK → Prop) (t : TA) (σ : L2.St) (x : V) (H : Hp) (Q : VK) : Prop := tyV K T x H ∧ t σ H fun xs H2 => r x xs H2 Q
def Bm0 (K : PySem.W.Frag) (T : String) (r : V → List V → Hp → VK → Prop) (σ : L2.St) (x : V) (H : Hp) (Q : VK) : Prop := tyV K T x H ∧ r x [] H Q
section
variable {K : PySem.W.Frag} {σ : L2.St} {B H : Hp} {Q : VK} {p q : Addr} {v y : V} {te to ti : TE} {t : TA} {D' : Ends} {z : TS} {i : Int} {r : V → List V → Hp → VK → Prop}
theorem h_bm {T : String} (h : to σ H fun x H1 => Bm K T r t σ x H1 Q) : tBM K T r to t σ H Q := h
theorem h_bm0 {T : String} (h : to σ H fun x H1 => Bm0 K T r σ x H1 Q) : tBM0 K T r to σ H Q := h
theorem Mu.tyV {ds : List D} (m : Mu K B H p ds) : tyV K "list" (.ref p) H := by
  obtain ⟨hb, xs, hp, _⟩ := m
  exact .inl ⟨rfl, _, .inl (.inl hp)⟩
theorem h_bmL {ds : List D} (m : Mu K B H p ds) (h : t σ H fun xs H2 => r (.ref p) xs H2 Q) : Bm K "list" r t σ (.ref p) H Q := ⟨m.tyV, h⟩
theorem h_bmL0 {ds : List D} (m : Mu K B H p ds) (h : r (.ref p) [] H Q) : Bm0 K "list" r σ (.ref p) H Q := ⟨m.tyV, h⟩
theorem h_append {α : Type} [Enc α] {l : List α} {b : α} (w : Ex B H) (m : Mu K B H p (l.map enc)) (ry : Rep K B y (enc b)) (hz : l.length < 1000000) (h : ∀ H', Stp [p] B H B H' → Mu K B H' p ((l ++ [b]).map enc) → Q .non H') : rAppend (.ref p) [y] H Q := by
  obtain ⟨hb, xs, hp, hr⟩ := id m
  refine ⟨p, xs, y, rfl, rfl, hp, by rw [hr.length, List.length_map]; exact Nat.lt_of_lt_of_le hz (by decide), ?_⟩
  have rl : RepL K B (xs ++ [y]) ((l ++ [b]).map enc) := by
    rw [List.map_append]
    exact hr.append (.cons ry .nil)
  obtain ⟨s, m'⟩ := Stp.mut w m rl
  exact h _ s m'
theorem h_extend {α : Type} [Enc α] {l l2 : List α} (w : Ex B H) (m : Mu K B H p (l.map enc)) (m2 : Mu K B H q (l2.map enc)) (hz : l.length + l2.length ≤ 1000000) (h : ∀ H', Stp [p] B H B H' → Mu K B H' p ((l ++ l2).map enc) → Q .non H') : rExtend (.ref p) [.ref q] H Q := by
  obtain ⟨hb, xs, hp, hr⟩ := id m
  obtain ⟨hb2, ys, hp2, hr2⟩ := id m2
  refine ⟨p, q, xs, ys, rfl, rfl, hp, hp2, by rw [hr.length, hr2.length, List.length_map, List.length_map]; exact Nat.le_trans hz (by decide), ?_⟩
  have rl : RepL K B (xs ++ ys) ((l ++ l2).map enc) := by
    rw [List.map_append]
    exact hr.append hr2
  obtain ⟨s, m'⟩ := Stp.mut w m rl
  exact h _ s m'
theorem RepL.set : ∀ {vs : List V} {ds : List D} {j : Nat} {d : D}, RepL K B vs ds → Rep K B v d → RepL K B (vs.set j v) (ds.set j d)
  | _, _, _, _, .nil, _ => .nil
  | _, _, 0, _, .cons _ t, r => .cons r t
  | _, _, j + 1, _, .cons h t, r => .cons h (RepL.set t r)
theorem Post.set {α β : Type} {l : List α} {x : α} {k : List α → Res β} {P : β → Prop} {R : Err → Prop} (h : Post ((setR l i x).bind k) P R) : ∃ j, ixN l.length i = some j ∧ Post (k (l.set j x)) P R := by
  unfold setR at h
  cases e : ixN l.length i with
  | none => rw [e] at h; exact h.elim
  | some j => rw [e] at h; exact ⟨j, rfl, h⟩
def SubS (K : PySem.W.Frag) (to ti : TE) (σ : L2.St) (v : V) (H : Hp) (N : L2.St → Hp → Prop) : Prop := gSub to ti rSetL v σ H N
theorem h_sub {N : L2.St → Hp → Prop} (h : to σ H fun o H1 => ti σ H1 fun i H2 => rSetL o i v H2 fun H3 => N σ H3) : gSub to ti rSetL v σ H N := h
theorem h_asg {g : TG} (h : te σ H fun x H1 => g x σ H1 D'.nx) : tAsg te g D' σ H := h
theorem h_setL {α : Type} [Enc α] {l : List α} {b : α} {N : Hp → Prop} {j : Nat} (w : Ex B H) (m : Mu K B H p (l.map enc)) (ry : Rep K B v (enc b)) (hj : ixN l.length i = some j) (h : ∀ H', Stp [p] B H B H' → Mu K B H' p ((l.set j b).map enc) → N H') : rSetL (.ref p) (.int i) v H N := by
  obtain ⟨hb, xs, hp, hr⟩ := id m
  refine ⟨p, xs, i, j, rfl, rfl, hp, by rw [hr.length, List.length_map]; exact hj, ?_⟩
  have rl : RepL K B (xs.set j v) ((l.set j b).map enc) := by
    rw [List.map_set]
    exact hr.set ry
  obtain ⟨s, m'⟩ := Stp.mut w m rl
  exact h _ s m'
end

/-- a value with a name -/
def lt {α β : Type} (d : α) (k : α → Res β) : Res β := k d
theorem Post.lt {α β : Type} {d : α} {k : α → Res β} {P : β → Prop} {R : Err → Prop} (h : Post (Y.lt d k) P R) : Post (k d) P R := h

/-! ### lists put together, cut, compared; keywords alone -/
def rCatQ (K : PySem.W.Frag) : R2 := fun x y H Q => ∃ a b xs ys, x = .ref a ∧ y = .ref b ∧ SqL K H a xs ∧ SqL K H b ys ∧ xs.length + ys.length ≤ sizeLine ∧ NwL (xs ++ ys) H Q
theorem op_catQ {X : Cx} : OpR X (binaryOp .Add) (rCatQ X.K) := by
  intro pins s σ H x y v u Q I rx ry h
  obtain ⟨a, b, xs, ys, rfl, rfl, ha, hb, hz, q⟩ := h
  cases rx
  cases ry
  obtain ⟨its, r, p1, z1⟩ := I.list ha
  obtain ⟨its2, r2, p2, z2⟩ := I.list hb
  have hl1 := r.length
  have hl2 := r2.length
  obtain ⟨⟨cls, dd, data, sl⟩, ho, hc, n, hd⟩ := p1.isList
  obtain ⟨⟨cls2, dd2, data2, sl2⟩, ho2, hc2, n2, hd2⟩ := p2.isList
  simp only at hc hd hc2 hd2
  subst hc hd hc2 hd2
  have e : its.toArray ++ its2.toArray = (its ++ its2).toArray := by simp
  refine concat_meets ⟨_, ho, rfl⟩ ⟨_, ho2, rfl⟩ noFill_list_add seq_list_add PySem.F.slot_list_add PySem.F.entry_list_add (PySem.F.args_list_add_2 _ _) (list_addW a b its.toArray its2.toArray n n2 dd dd2 sl sl2 (by rw [List.size_toArray, List.size_toArray]; omega)) ⟨ho, ho2, ?_⟩
  rw [e]
  exact ⟨.ref _, _, I.lnew (t' := s.toks) (r.append r2) (by rw [List.length_append]; omega), rfl, q _ I.fresh⟩
def rSlQ (K : PySem.W.Frag) : V → Option Int → Option Int → Hp → VK → Prop := fun x lo hi H Q => ∃ a xs, x = .ref a ∧ SqL K H a xs ∧ NwL (cutV xs lo hi) H Q
theorem sl_Q {X : Cx} : SlR X (rSlQ X.K) := sl_list
/-- l[lo:hi] -/
def cutL {α : Type} (l : List α) (lo hi : Option Int) : List α := (l.drop (HT.sIx l.length 0 lo)).take (HT.sIx l.length l.length hi - HT.sIx l.length 0 lo)
mutual
/-- as the library's data -/
def pyD : D → PyData
  | .non => .none | .bl b => .bool b | .int i => .int i | .str x => .str x | .lst ds => .list (pyDs ds) | .tup ds => .tuple (pyDs ds) | .dic _ => .dict []
def pyDs : List D → List PyData
  | [] => []
  | d :: ds => pyD d :: pyDs ds
end
mutual
/-- no dict within -/
def flatD : D → Bool
  | .lst ds => flatDs ds | .tup ds => flatDs ds | .dic _ => false | _ => true
def flatDs : List D → Bool
  | [] => true
  | d :: ds => flatD d && flatDs ds
end
/-- == of data -/
def eqD (a b : D) : Bool := PyData.eqv (pyD a) (pyD b)
section
variable {K : PySem.W.Frag} {B B' H H' : Hp}
mutual
theorem Rep.dp (w : Ex B H) : ∀ {v : V} {d : D}, Rep K B v d → flatD d = true → Dp K H v (pyD d)
  | _, _, .non, _ => .non
  | _, _, .bl b, _ => .bl b
  | _, _, .int i, _ => .int i
  | _, _, .str x, _ => .str x
  | _, _, .lst h r, f => .lst (w.l h) (RepL.dp w r f)
  | _, _, .tup h r, f => .tup (w.t h) (RepL.dp w r f)
  | _, _, .dic h r, f => nomatch f
theorem RepL.dp (w : Ex B H) : ∀ {vs : List V} {ds : List D}, RepL K B vs ds → flatDs ds = true → DpAll K H vs (pyDs ds)
  | _, _, .nil, _ => .nil
  | _, _, .cons h t, f => by
    have f' : (flatD _ && flatDs _) = true := f
    rw [Bool.and_eq_true] at f'
    exact .cons (Rep.dp w h f'.1) (RepL.dp w t f'.2)
end
variable {σ : L2.St} {Q : VK} {x y v : V} {d e : D} {p q : Addr} {xs ys : List V} {i j k : Int} {tc te ta tb : TE} {lo hi : Option Int} {to tu : TO}
/-- what may be compared by == here -/
def okEq (d e : D) : Prop := flatD d = true ∧ flatD e = true ∧ SeqAt.shaped (pyD d) = true ∧ SeqAt.shaped (pyD e) = true
instance (d e : D) : Decidable (okEq d e) := by unfold okEq; infer_instance
theorem h_eqD (w : Ex B H) (rx : Rep K B x d) (ry : Rep K B y e) (o : okEq d e) (h : Q (.bl (eqD d e)) H) : rEqD K x y H Q := ⟨_, _, rx.dp w o.1, ry.dp w o.2.1, o.2.2.1, o.2.2.2, h⟩
theorem h_neD (w : Ex B H) (rx : Rep K B x d) (ry : Rep K B y e) (o : okEq d e) (h : Q (.bl (!eqD d e)) H) : rNeD K x y H Q := ⟨_, _, rx.dp w o.1, ry.dp w o.2.1, o.2.2.1, o.2.2.2, h⟩
theorem h_cat (s1 : SqL K H p xs) (s2 : SqL K H q ys) (hz : xs.length + ys.length ≤ sizeLine) (h : NwL (xs ++ ys) H Q) : rCatQ K (.ref p) (.ref q) H Q := ⟨p, q, xs, ys, rfl, rfl, s1, s2, hz, h⟩
theorem RepL.cat {α : Type} [Enc α] {l l2 : List α} (r : RepL K B xs (l.map enc)) (r2 : RepL K B ys (l2.map enc)) : RepL K B (xs ++ ys) ((l ++ l2).map enc) := by
  rw [List.map_append]; exact r.append r2
theorem RepL.take : ∀ {vs : List V} {ds : List D} (n : Nat), RepL K B vs ds → RepL K B (vs.take n) (ds.take n)
  | _, _, 0, _ => .nil
  | _, _, _ + 1, .nil => .nil
  | _, _, n + 1, .cons r t => .cons r (RepL.take n t)
theorem RepL.drop : ∀ {vs : List V} {ds : List D} (n : Nat), RepL K B vs ds → RepL K B (vs.drop n) (ds.drop n)
  | _, _, 0, r => r
  | _, _, _ + 1, .nil => .nil
  | _, _, n + 1, .cons _ t => RepL.drop n t
theorem RepL.cut {α : Type} [Enc α] {l : List α} (r : RepL K B xs (l.map enc)) (lo hi : Option Int) : RepL K B (cutV xs lo hi) ((cutL l lo hi).map enc) := by
  unfold cutV cutL
  rw [List.map_take, List.map_drop, r.length, List.length_map]
  exact (r.drop _).take _
theorem h_sl {r : V → Option Int → Option Int → Hp → VK → Prop} (h : te σ H fun x H1 => to σ H1 fun l H2 => tu σ H2 fun u H3 => r x l u H3 Q) : tSl r te to tu σ H Q := h
theorem h_part {N : Option Int → Hp → Prop} (h : te σ H fun x H1 => ∃ i, x = .int i ∧ N (some i) H1) : tPart te σ H N := h
theorem h_isI {f : Int → Prop} (h : f i) : ∃ j, V.int i = .int j ∧ f j := ⟨i, rfl, h⟩
theorem h_nopart {N : Option Int → Hp → Prop} (h : N none H) : tNoPart σ H N := h
theorem h_slQ (s : SqL K H p xs) (h : NwL (cutV xs lo hi) H Q) : rSlQ K (.ref p) lo hi H Q := ⟨p, xs, rfl, s, h⟩
theorem h_ch {g g' : Int → Int → Bool} (hc : ∀ Q : VK, Q (.int k) H → tc σ H Q) (h : Q (.bl (g i j && g' j k)) H) :
    rI0 (fun i j => .bl (g i j)) (.int i) (.int j) H (fun z H3 => ∃ c, z = .bl c ∧ (if c = true then tc σ H3 fun w' H4 => rI0 (fun i j => .bl (g' i j)) (.int j) w' H4 Q else Q (.bl false) H3)) := by
  refine ⟨i, j, rfl, rfl, g i j, rfl, ?_⟩
  cases e : g i j with
  | true =>
    refine h_iteT (hc _ ?_)
    rw [e, Bool.true_and] at h
    exact ⟨j, k, rfl, rfl, h⟩
  | false =>
    rw [e, Bool.false_and] at h
    exact h_iteF h
end
/-- f(k = v, ..) -/
def tCallK0 (sp : Sp) (gV : List V → List V) (E : XK) (tk : TA) : TE := fun σ H Q => tk σ H fun zs H2 => sp (gV zs) H2 Q E
theorem pe_callK0 {X : Cx} {CX : CXT} {k : Nat} {f : Addr} {fd : FuncData} {ps ks : List Str} {sp : Sp} {E : XK} {x : Str} {p pos : Pos} {kws : List Keyword} {tk : TA} {g : List Value → List Value → List Value} {gV : List V → List V → List V}
    (F : FnOk X.prog X.w X.K X.mg X.base CX k f fd ps sp) (hr : Room k X.A) (hg : Gl X x) (hm : X.mg x = some (.ref f)) (hk : PySem.W.keepIn X.K (.ref f) = true) (hb : KBinds X.K fd ps ks g gV) (hx : Passes CX X E)
    (hkw : PK X kws tk) (hall : (backToKw pos (keywordEach kws X.env)).all (·.1.isSome) = true := by rfl) (hks : (backToKw pos (keywordEach kws X.env)).filterMap (·.1) = ks := by rfl)
    (hdb : (x == ("__debug__" : Str)) = false := by decide)
    (hpl : ((backTo pos (starEach [] X.env)).any (·.1) || (backToKw pos (keywordEach kws X.env)).any (·.1.isNone)) = false := by rfl) :
    PE X (.Call (.Name x p) [] kws pos) (tCallK0 sp (gV []) E tk) := by
  refine ⟨fun pins s σ H Q I h => ?_⟩
  refine wpAny_Call_Name_kw (ld_glob I hg hm ?_ hdb)
  refine PySem.W.callWith_KW0 (h₀ := X.base) I.ok.mod.kin hk hall ?_ hpl
  refine thn (hkw.run pos pins s σ H _ I h) fun ws s2 ⟨zs, H2, I2, rz, q2⟩ => ⟨I2.kIn, ?_⟩
  rw [hks]
  exact run_fnk F hr hb hx I2 .nil rz q2
theorem h_callK0 {σ : L2.St} {H : Hp} {Q : VK} {sp : Sp} {gV : List V → List V} {E : XK} {tk : TA} (h : tk σ H fun zs H2 => sp (gV zs) H2 Q E) : tCallK0 sp gV E tk σ H Q := h
theorem h_callK {σ : L2.St} {H : Hp} {Q : VK} {sp : Sp} {gV : List V → List V → List V} {E : XK} {t tk : TA} (h : t σ H fun vs H1 => tk σ H1 fun zs H2 => sp (gV vs zs) H2 Q E) : tCallK sp gV E t tk σ H Q := h
theorem hu64_of {A : Around} {k : Nat} (hr : Room k A) : A.units + 64 < cLine := Nat.lt_of_le_of_lt (Nat.add_le_add_left (by decide : 64 ≤ 64) _) hr.units

/-! ### dicts as data -/
section
variable {K : PySem.W.Frag} {B H : Hp} {σ : L2.St} {Q : VK} {tk tv : TE} {v : V} {d : D} {i : Int} {p : Addr} {xs : List V}
theorem h_disp1I (hk : ∀ (H' : Hp) (Q : VK), Q (.int i) H' → tk σ H' Q) (hv : ∀ (H' : Hp) (Q : VK), Q v H' → tv σ H' Q) (w : Ex B H) (rv : Rep K B v d)
    (h : ∀ p B' H', Stp [] B H B' H' → Rep K B' (.ref p) (.dic [(.inl i, d)]) → Q (.ref p) H') : tDisp [(tk, tv)] σ H Q := fun p hp => by
  show tk σ (upd H p (.dK [])) _
  refine hk _ _ (hv _ _ ⟨upd_same, [(.inl i, v)], rfl, (by show 1 ≤ 15; decide), ?_⟩)
  rw [upd_upd]
  have hb := w.none hp
  exact h p _ _ (Stp.new w hp) (.dic upd_same (.cons (rv.mono (Ex.new hb)) .nil))
theorem h_dnew (w : Ex B H) (h : ∀ p B' H', Stp [] B H B' H' → Rep K B' (.ref p) (.dic []) → Q (.ref p) H') : tDNewK σ H Q := fun p hp => h p _ _ (Stp.new w hp) (.dic upd_same .nil)
def rDictP (K : PySem.W.Frag) : List V → Hp → VK → Prop := fun xs H Q => ∃ (a : Addr) (ps : List Addr) (kvs : List (Key × V)), xs = [.ref a] ∧ SqL K H a (ps.map V.ref) ∧ Paired (fun p kv => SqT K H p [kV kv.1, kv.2]) ps kvs ∧
    ∀ p, H p = none → Q (.ref p) (upd H p (.dK (mergeK [] kvs)))
theorem cr_dict {X : Cx} (hc : X.calm = true) : CallR X (.type "dict") (rDictP X.K) := call_dictP hc
def vD : V → D
  | .int i => .int i | .bl b => .bl b | .str x => .str x | _ => .non
/-- dict(pairs of ints), as data -/
def dictI (l : List (Tp2 Int Int)) : List (Key × D) := (mergeK [] (l.map fun t => ((Sum.inl t.a : Key), V.int t.b))).map fun kv => (kv.1, vD kv.2)
theorem putK_ints {kvs : List (Key × V)} {k : Key} {j : Int} (h : ∀ kv ∈ kvs, ∃ i, kv.2 = V.int i) : ∀ kv ∈ putK kvs k (V.int j), ∃ i, kv.2 = V.int i := by
  intro kv m
  unfold putK at m
  split at m
  · obtain ⟨q, hq, e⟩ := List.mem_map.mp m
    rw [← e]
    split
    · exact ⟨j, rfl⟩
    · exact h q hq
  · rcases List.mem_append.mp m with m | m
    · exact h kv m
    · rw [List.mem_singleton.mp m]; exact ⟨j, rfl⟩
theorem merge_ints : ∀ {l : List (Tp2 Int Int)} {acc : List (Key × V)}, (∀ kv ∈ acc, ∃ i, kv.2 = V.int i) → ∀ kv ∈ mergeK acc (l.map fun t => ((Sum.inl t.a : Key), V.int t.b)), ∃ i, kv.2 = V.int i
  | [], _, h => h
  | t :: r, acc, h => merge_ints (l := r) (putK_ints h)
theorem RepK.ints : ∀ {kvs : List (Key × V)}, (∀ kv ∈ kvs, ∃ i, kv.2 = V.int i) → RepK K B kvs (kvs.map fun kv => (kv.1, vD kv.2))
  | [], _ => .nil
  | (k, v) :: r, h => by
    obtain ⟨i, e⟩ := h (k, v) List.mem_cons_self
    have e' : v = V.int i := e
    subst e'
    exact .cons (.int i) (RepK.ints fun kv m => h kv (List.mem_cons_of_mem _ m))
theorem pairs_D (w : Ex B H) : ∀ {xs : List V} {l : List (Tp2 Int Int)}, RepL K B xs (l.map enc) → ∃ ps : List Addr, xs = ps.map V.ref ∧ Paired (fun p (kv : Key × V) => SqT K H p [kV kv.1, kv.2]) ps (l.map fun t => ((Sum.inl t.a : Key), V.int t.b))
  | [], [], _ => ⟨[], rfl, .nil⟩
  | _ :: _, [], r => nomatch r
  | [], _ :: _, r => nomatch r
  | v :: vs, t :: l, r => by
    cases r with
    | cons h q =>
      obtain ⟨ps, e, pr⟩ := pairs_D w q
      obtain ⟨p, ys, rfl, hs, hr⟩ := Rep.st w (show Rep K B v (.tup [enc t.a, enc t.b]) from h)
      cases hr with
      | cons h1 t1 =>
        cases t1 with
        | cons h2 t2 =>
          cases t2
          cases h1
          cases h2
          exact ⟨p :: ps, by rw [e]; rfl, .cons hs pr⟩
theorem h_dictP {l : List (Tp2 Int Int)} (w : Ex B H) (s : SqL K H p xs) (r : RepL K B xs (l.map enc)) (h : ∀ p B' H', Stp [] B H B' H' → Rep K B' (.ref p) (.dic (dictI l)) → Q (.ref p) H') : rDictP K [.ref p] H Q := by
  obtain ⟨ps, e, pr⟩ := pairs_D w r
  subst e
  exact ⟨p, ps, _, rfl, s, pr, fun q hq => h q _ _ (Stp.new w hq) (.dic upd_same (RepK.ints (merge_ints fun _ m => nomatch m)))⟩
end
theorem RepL.toD {K : PySem.W.Frag} {B : Hp} {α : Type} [Enc α] {xs : List V} {l : List α} (r : RepL K B xs (l.map enc)) : RepL K B xs ((l.map enc : List D).map enc) := by
  have e : (l.map enc : List D).map enc = l.map enc := List.map_id' _
  rw [e]; exact r
/-- a thing that is an int -/
def asI (d : D) : Res Int := match d with | .int i => .ok i | _ => .stuck
theorem Post.asI {β : Type} {d : D} {k : Int → Res β} {P : β → Prop} {R : Err → Prop} (h : Post ((Y.asI d).bind k) P R) : ∃ i, d = .int i ∧ Post (k i) P R := by
  cases d with
  | int i => exact ⟨i, rfl, h⟩
  | _ => exact h.elim
/-- a pair taken apart -/
def un2 {α β γ : Type} (k : α → β → γ) (p : α × β) : γ := k p.1 p.2
theorem Post.un2 {α β γ : Type} {k : α → β → Res γ} {a : α} {b : β} {P : γ → Prop} {R : Err → Prop} (h : Post (Y.un2 k (a, b)) P R) : Post (k a b) P R := h
/-- a thing that is a list | a tuple -/
def asL (d : D) : Res (List D) := match d with | .lst l => .ok l | _ => .stuck
def asT (d : D) : Res (List D) := match d with | .tup l => .ok l | _ => .stuck
theorem enc_Ds (l : List D) : (l.map enc : List D) = l := List.map_id' _
theorem Post.asL {β : Type} {d : D} {k : List D → Res β} {P : β → Prop} {R : Err → Prop} (h : Post ((Y.asL d).bind k) P R) : ∃ l : List D, d = .lst (l.map enc) ∧ Post (k l) P R := by
  cases d with
  | lst l => exact ⟨l, by rw [enc_Ds], h⟩
  | _ => exact h.elim
theorem Post.asT {β : Type} {d : D} {k : List D → Res β} {P : β → Prop} {R : Err → Prop} (h : Post ((Y.asT d).bind k) P R) : ∃ l : List D, d = .tup (l.map enc) ∧ Post (k l) P R := by
  cases d with
  | tup l => exact ⟨l, by rw [enc_Ds], h⟩
  | _ => exact h.elim
section
variable {K : PySem.W.Frag} {B H : Hp} {Q : VK} {p : Addr} {xs : List V}
theorem RepL.bools : ∀ {xs : List V} {bs : List Bool}, RepL K B xs (bs.map enc) → xs = bs.map V.bl
  | [], [], _ => rfl
  | _ :: _, [], r => nomatch r
  | [], _ :: _, r => nomatch r
  | v :: vs, b :: bs, r => by
    cases r with
    | cons h t =>
      cases h
      rw [RepL.bools t]
      rfl
theorem RepL.intsV : ∀ {xs : List V} {bs : List Int}, RepL K B xs (bs.map enc) → xs = bs.map V.int
  | [], [], _ => rfl
  | _ :: _, [], r => nomatch r
  | [], _ :: _, r => nomatch r
  | v :: vs, b :: bs, r => by
    cases r with
    | cons h t =>
      cases h
      rw [RepL.intsV t]
      rfl
theorem h_all {bs : List Bool} (s : SqL K H p xs) (r : RepL K B xs (bs.map enc)) (h : Q (.bl (bs.all id)) H) : rAll K [.ref p] H Q := ⟨p, bs, rfl, by rw [← r.bools]; exact s, h⟩
theorem h_any {bs : List Bool} (s : SqL K H p xs) (r : RepL K B xs (bs.map enc)) (h : Q (.bl (bs.any id)) H) : rAny K [.ref p] H Q := ⟨p, bs, rfl, by rw [← r.bools]; exact s, h⟩
theorem h_sum {ns : List Int} (s : SqL K H p xs) (r : RepL K B xs (ns.map enc)) (h : Q (.int ns.sum) H) : rSum K [.ref p] H Q := ⟨p, ns, rfl, by rw [← r.intsV]; exact s, h⟩
end
/-! ### the top -/
/-- the law's promise -/
def spTop (K : PySem.W.Frag) : Sp := fun vs H Q _ => ∃ (a : Addr) (ns : List Int), vs = [.ref a] ∧ ns.length ≤ 63 ∧ SqL K H a (ns.map V.int) ∧ ∀ H', Q (.bl true) H'
theorem top_of {K : PySem.W.Frag} {m : List Int → Res Bool} (hm : ∀ ns : List Int, ns.length ≤ 63 → m ns = .ok true) {vs : List V} {H : Hp} {Q : VK} {E : XK} (h : spTop K vs H Q E) :
    ∃ (B : Hp) (v : V) (a : List Int), Ex B H ∧ vs = [v] ∧ Bor K B H [] v (a.map enc) ∧ Post (m a) (fun r => Ret K [] B H (enc r) Q) (fun _ => False) := by
  obtain ⟨a, ns, e, hl, hs, k⟩ := h
  refine ⟨H, .ref a, ns, Ex.refl H, e, ⟨a, _, rfl, ?_, RepL.ints ns⟩, ?_⟩
  · rcases hs with hs | hs
    · exact .inl ⟨hs, fun z => nomatch z⟩
    · exact .inr hs
  · rw [hm ns hl]
    refine ⟨fun v B' H' st r => ?_⟩
    cases r
    exact k H'
theorem walk_top {l : PySem.W.OpenLaw} {q : Program} {loose : List Str} {XP : (Str → Option Value) → Heap → Prop} {YP : World → Heap → Prop} {d : DefRec} {K : Params → PySem.W.Frag} {x : Str} {k : Nat} (hn : l.most = some 63) (hdf : d.params.defaults = [])
    (hr : Room k callerA) (hY : ∀ (w : World) (h : Heap), YP w h → (K w.params).In h)
    (F : ∀ (w : World) (mg : Str → Option Value) (fa : Addr) (h : Heap), (K w.params).In h → h.Ns mainGlobals mg → mg d.name = some (.ref fa) →
      ∃ fd : FuncData, (∀ (s : Shared) (u : Value), BindsTo s fd ⟨[u], []⟩ [(x, u)]) ∧ ∀ base : Heap, (K w.params).In base → base.Ns mainGlobals mg → FnOk l.prog w (K w.params) mg base CX0 k fa fd [x] (spTop (K w.params))) :
    PySem.W.WalkO q loose XP YP l.row.toRowW d [] (fun f vs => PySem.call f vs) :=
  L2.walk_of (n := 63) (k := k) (x := x) (CX := fun _ => CX0) (sp := fun w => spTop (K w.params)) hn (by decide) hdf hr hY F (fun _ _ a ns hl _ hS => ⟨a, ns, rfl, hl, hS, fun _ => rfl⟩) fun _ _ _ _ _ z => z
/-- how its arguments bind by keywords -/
theorem _root_.L2.Fun.kb {K : PySem.W.Frag} {x qual : Str} {st : Stmt} {f : Addr} {fd : FuncData} {ps ks : List Str} {g : List Value → List Value → List Value} {gV : List V → List V → List V} (F : Fun K x qual st f fd)
    (h : ∀ (kV doc pm : Value) (an : Option Addr) (cdv ct : Value) (us ws : List Value), (g us ws).length = ps.length → bindArgs (PySem.W.fnOf x qual (defArgs st) (defBody st) (defScope st) .none kV doc pm an cdv ct) ⟨us, ks.zip ws⟩ = pure (ps.zip (g us ws)))
    (r : ∀ {vs : List V} {us : List Value} {zs : List V} {ws : List Value}, Vals vs us → Vals zs ws → Vals (gV vs zs) (g us ws)) : KBinds K fd ps ks g gV := by
  obtain ⟨oc, od, kV, doc, pm, an, cdv, ct, osl, rfl, lk, hcd⟩ := F.ex
  exact ⟨fun s us ws _ hl => .of_eq (h kV doc pm an cdv ct us ws hl), r⟩

/-! ### while -/
def whileR {S R : Type} : Nat → S → (S → Res (Fl S R)) → Res (Fl S R)
  | 0, _, _ => .stuck
  | n + 1, s, g => (g s).bind fun r => match r with | .nx s' => whileR n s' g | r => .ok r
section
variable {K : PySem.W.Frag} {σ : L2.St} {H : Hp} {Q : VK} {tb t : TS} {c : TT} {D' : Ends} {S β : Type} {P : β → Prop} {E : Err → Prop}
theorem h_while {n : Nat} {s0 : S} {f : S → Res (Fl S β)} {k : S → Res β} (hP : Post ((whileR n s0 f).bind (afterR k)) P E) (J : S → L2.St → Hp → Prop) (h0 : J s0 σ H)
    (hb : ∀ (N : L2.St → Hp → Prop) (C : (L2.St → Hp → Prop) → Prop) (T : Fl S β → Prop) s σ' H', J s σ' H' → C N → (∀ s' σ2 H2, J s' σ2 H2 → T (.nx s') → N σ2 H2) → (∀ r, T (.rt r) → P r) → (∀ s' σ2 H2, J s' σ2 H2 → T (.bk s') → D'.nx σ2 H2) → Post (f s) T E →
      c σ' H' fun b H1 => if b = true then ∃ N, C N ∧ tb { D' with nx := N, ct := N, bk := D'.nx } σ' H1 else D'.nx σ' H1)
    (hd : ∀ s σ' H', J s σ' H' → Post (k s) P E → D'.nx σ' H') : tWhile c tb D' σ H := by
  refine ⟨fun m σ' H' => ∃ s, J s σ' H' ∧ Post (whileR m s f) (fun a => Post (afterR k a) P E) E, ⟨n, s0, h0, hP.bind⟩, ?_⟩
  rintro m σ' H' ⟨s, j, q⟩
  cases m with
  | zero => exact Post.elim q
  | succ m =>
    refine hb (fun σ2 H2 => ∃ s', J s' σ2 H2 ∧ Post (whileR m s' f) (fun a => Post (afterR k a) P E) E) (fun N => ∀ σ2 H2, N σ2 H2 → ∃ m', m' < m + 1 ∧ ∃ s, J s σ2 H2 ∧ Post (whileR m' s f) (fun a => Post (afterR k a) P E) E)
      (fun r => match r with | .nx s' => Post (whileR m s' f) (fun a => Post (afterR k a) P E) E | .rt r => Post (.ok r) P E | .bk s' => Post (k s') P E) s σ' H' j (fun σ2 H2 h => ⟨m, Nat.lt_succ_self m, h⟩)
      (fun s' σ2 H2 j2 t2 => ⟨s', j2, t2⟩) (fun r t2 => Post.ok t2) (fun s' σ2 H2 j2 t2 => hd s' σ2 H2 j2 t2) ?_
    refine (Post.bind q).mono (fun r q => ?_) fun _ q => q
    cases r with
    | nx s' => exact q
    | rt r => exact q.ok
    | bk s' => exact q.ok
theorem h_par {i j : Nat} {ta : TA} (h : ta σ H fun vs H1 => ∃ v w, vs = [v, w] ∧ D'.nx ((σ.set i (some v)).set j (some w)) H1) : tPar i j ta D' σ H := h
theorem h_two {N : V → V → Prop} {x y : V} (h : N x y) : ∃ v w, [x, y] = [v, w] ∧ N v w := ⟨x, y, rfl, h⟩

/-! ### errors -/
def tryR {α : Type} (m : Res α) (h : Err → Res α) : Res α := match m with | .ok a => .ok a | .err e => h e | .stuck => .stuck
theorem Post.tr {α : Type} {m : Res α} {h : Err → Res α} {P : α → Prop} {R : Err → Prop} (q : Post (tryR m h) P R) : Post m P (fun e => Post (h e) P R) := by
  obtain ⟨q⟩ := q
  refine ⟨?_⟩
  cases m
  · exact q
  · exact ⟨q⟩
  · exact q
theorem h_tryJ {m : Res (Fl S β)} {h : Err → Res (Fl S β)} {k : S → Res β} (hP : Post ((tryR m h).bind (afterR k)) P E) (J : S → L2.St → Hp → Prop)
    (h1 : ∀ (N : L2.St → Hp → Prop) (T : Fl S β → Prop), (∀ s σ' H', J s σ' H' → T (.nx s) → N σ' H') → (∀ r, T (.rt r) → P r) → Post m T (fun e => Post (h e) T E) → t { D' with nx := N } σ H)
    (h2 : ∀ s σ' H', J s σ' H' → Post (k s) P E → D'.nx σ' H') : t D' σ H := by
  refine h1 _ (fun a => Post (afterR k a) P E) (fun s σ' H' j q => h2 s σ' H' j q) (fun r q => (q : Post (.ok r) P E).ok) ?_
  exact (Post.bind hP).tr
/-- what the written part says of an error's class -/
structure ExcT (K : PySem.W.Frag) (mg : Str → Option Value) (nm : Str) (C : Addr) : Prop where
  g : mg nm = some (.ref C)
  ec : ExcC K C
  ty : PySem.W.typeIn K (.ref C) = some (.type "type")
  kp : PySem.W.keepIn K (.ref C) = true
  ve : PySem.W.subIn K (.ref C) (.type "ValueError") = some true
  is : PySem.W.isClsIn K C = true
  self : PySem.W.subIn K (.ref C) (.ref C) = some true
/-- an error that is raised with a text alone -/
structure ExcR (K : PySem.W.Frag) (mg : Str → Option Value) (nm : Str) (C : Addr) : Prop extends ExcT K mg nm C where
  ex : PySem.W.excIn K C [.type "ValueError", .type "Exception", .type "BaseException", .type "object"] "ValueError.__new__" = true
theorem ExcT.names {X : Cx} {nm : Str} {C : Addr} (T : ExcT X.K X.mg nm C) (hg : Gl X nm) (hd : (nm == ("__debug__" : Str)) = false) : Names X nm (.ref C) := ⟨hg, hd, .inl T.g⟩
theorem ExcT.exm {mg : Str → Option Value} {nm : Str} {C : Addr} (T : ExcT K mg nm C) {cls : Value} {b : Bool} (h : PySem.W.subIn K cls (.ref C) = some b) : PySem.W.exmOne K cls (.ref C) = some b := PySem.W.exm_ref T.ec.hs T.ec.hd T.ty h
theorem ExcT.kit {mg : Str → Option Value} {nm : Str} {C C2 : Addr} (T : ExcT K mg nm C) {b : Bool} (h : PySem.W.subIn K (.ref C2) (.ref C) = some b) : PySem.W.kitOne K (.ref C2) (.ref C) = some b := by
  unfold PySem.W.kitOne
  by_cases e : (Value.ref C2 == Value.ref C) = true
  · rw [if_pos e]
    have e2 : C2 = C := Value.ref.inj (beq_iff_eq.mp e)
    subst e2
    exact T.self.symm.trans h
  · rw [if_neg e]
    have h2 : (PySem.W.clsIn K C).isSome = true := T.is
    show (if ((PySem.W.clsIn K C).isSome && PySem.W.typeIn K (.ref C) == some (.type "type")) = true then PySem.W.subIn K (.ref C2) (.ref C) else none) = some b
    rw [if_pos (by rw [h2, T.ty] <;> rfl)]
    exact h
theorem ExcT.kitVE {mg : Str → Option Value} {nm : Str} {C : Addr} (T : ExcT K mg nm C) : PySem.W.kitOne K (.ref C) (.type "ValueError") = some true := by
  unfold PySem.W.kitOne
  rw [if_neg (by simp)]
  show (if PySem.W.kitMeta "ValueError" = true then PySem.W.subIn K (.ref C) (.type "ValueError") else none) = some true
  rw [if_pos (by decide +kernel)]
  exact T.ve
def tIsE (K : PySem.W.Frag) (a : Addr) (cls : Value) (d : Option Addr) (targs : TA) : TE := fun σ H Q => ∃ Dc, cls = .ref Dc ∧ d = none ∧ ExcC K Dc ∧ tCB (rIsE K Dc a) targs σ H Q
theorem pe_isE {X : Cx} {e : Expr} {a : Addr} {cls : Value} {d : Option Addr} {targs : TA} (hK : X.K = K) (h : ∀ Dc, cls = .ref Dc → d = none → ExcC K Dc → PE X e (tCB (rIsE K Dc a) targs)) : PE X e (tIsE K a cls d targs) :=
  ⟨fun pins s σ H Q I q => by
    obtain ⟨Dc, e1, e2, ec, q⟩ := q
    exact (h Dc e1 e2 ec).run pins s σ H Q I q⟩
theorem h_isE {a C : Addr} {targs : TA} {mg : Str → Option Value} {nm : Str} (T : ExcT K mg nm C) (h : targs σ H fun vs H1 => rIsE K C a vs H1 Q) : tIsE K a (.ref C) none targs σ H Q := ⟨C, rfl, rfl, T.ec, h⟩
theorem h_isER {a C C2 : Addr} {b : Bool} (h : PySem.W.kitOne K (.ref C) (.ref C2) = some b) (q : Q (.bl b) H) : rIsE K C a [.ref a, .ref C2] H Q := ⟨.ref C2, .ref C2, b, rfl, fun _ r => r, h, q⟩
theorem h_isEB {a C : Addr} {n : String} {b : Bool} (h : PySem.W.kitOne K (.ref C) (.type n) = some b) (q : Q (.bl b) H) : rIsE K C a [.ref a, .ty n] H Q := ⟨.ty n, .type n, b, rfl, fun _ r => r, h, q⟩
/-- the clause of a try meets the error -/
theorem h_wAs {C S' : Addr} {i : Nat} {ts : Addr → Value → Option Addr → TS} {Wout : WX} {mg : Str → Option Value} {nm : Str} (T : ExcT K mg nm S') (hs : PySem.W.subIn K (.ref C) (.ref S') = some true)
    (h : ∀ a, H a = none → ts a (.ref C) none { nx := fun σ' H' => D'.nx (σ'.set i none) H', rt := D'.rt, bk := fun σ' H' => D'.bk (σ'.set i none) H', ct := fun σ' H' => D'.ct (σ'.set i none) H' } (σ.set i (some (.ref a))) H) :
    wAs K (.ref S') i ts Wout D' (.ref C) none σ H := ⟨true, T.exm hs, fun _ a ha => h a ha, fun q => nomatch q⟩
theorem h_wOnly {C S' : Addr} {ts : Addr → Value → Option Addr → TS} {Wout : WX} {mg : Str → Option Value} {nm : Str} (T : ExcT K mg nm S') (hs : PySem.W.subIn K (.ref C) (.ref S') = some true)
    (h : ∀ a, H a = none → ts a (.ref C) none D' σ H) : wOnly K (.ref S') ts Wout D' (.ref C) none σ H := ⟨true, T.exm hs, fun _ a ha => h a ha, fun q => nomatch q⟩
end

/-! ### a try by its name -/
def tTryA (K : PySem.W.Frag) (c : Value) (i : Nat) (ts : Addr → Value → Option Addr → TS) (Wout : WX) (tb : WX → TS) : TS := fun D σ H => tb (wAs K c i ts Wout D) D σ H
def tTryO (K : PySem.W.Frag) (c : Value) (ts : Addr → Value → Option Addr → TS) (Wout : WX) (tb : WX → TS) : TS := fun D σ H => tb (wOnly K c ts Wout D) D σ H
section
variable {X : Cx} {n x : Str} {c : Value} {i : Nat} {body suite : List Stmt} {b₀ : Stmt} {np pos pos' : Pos} {tb : WX → TS} {ts : Addr → Value → Option Addr → TS} {Wout : WX} {D' : Ends} {σ : L2.St} {H : Hp} {K : PySem.W.Frag}
theorem ps_tryA (hs : X.stack = X.env :: X.outer) (hf : X.env.frame = some X.env.locals) (hN : X.N.Nodup) (hi : X.N[i]? = some n) (hln : X.env.kindOf n = some .local) (hc : Names X x c) (tk : Takes X Wout)
    (hb : ∀ (W : WX) (pn : List (Addr × Obj)) (xe : Value → Shared → Prop), Takes (X.tr pn xe) W → PassesOwn (model X.prog X.w) X.A X.env xe → PSs (X.tr pn xe) body (tb W))
    (hsu : ∀ (a : Addr) (oe : Obj) (cls : Value) (d : Option Addr) (pn : List (Addr × Obj)), Zc cls d oe → (∃ vs, oe.data = .fields vs) → PSs (X.suite a ((a, oe) :: pn)) (b₀ :: suite) (ts a cls d)) (hK : X.K = K := by rfl) :
    PS X (.Try body [.ExceptHandler (some (.Name x np)) (some n) (b₀ :: suite) pos'] [] [] pos) (tTryA K c i ts Wout tb) := hK ▸ ps_try_as hs hf hN hi hln hc tk hb hsu
theorem ps_tryO (hs : X.stack = X.env :: X.outer) (hf : X.env.frame = some X.env.locals) (hc : Names X x c) (tk : Takes X Wout)
    (hb : ∀ (W : WX) (pn : List (Addr × Obj)) (xe : Value → Shared → Prop), Takes (X.tr pn xe) W → PassesOwn (model X.prog X.w) X.A X.env xe → PSs (X.tr pn xe) body (tb W))
    (hsu : ∀ (a : Addr) (oe : Obj) (cls : Value) (d : Option Addr) (pn : List (Addr × Obj)), Zc cls d oe → (∃ vs, oe.data = .fields vs) → PSs (X.suite a ((a, oe) :: pn)) (b₀ :: suite) (ts a cls d)) (hK : X.K = K := by rfl) :
    PS X (.Try body [.ExceptHandler (some (.Name x np)) none (b₀ :: suite) pos'] [] [] pos) (tTryO K c ts Wout tb) := hK ▸ ps_try_only hs hf hc tk hb hsu
theorem h_tryA (h : tb (wAs K c i ts Wout D') D' σ H) : tTryA K c i ts Wout tb D' σ H := h
theorem h_tryO (h : tb (wOnly K c ts Wout D') D' σ H) : tTryO K c ts Wout tb D' σ H := h
end
theorem Post.mono2 {α : Type} {m : Res α} {P P' : α → Prop} {R R' : Err → Prop} (h : Post m P R) (hr : ∀ e, R e → R' e) (hp : ∀ a, P a → P' a) : Post m P' R' := h.mono hp hr
theorem boot_ValueError : bootBuiltins "ValueError" = some (.type "ValueError") := by decide +kernel
/-! ### things that are lists or tuples -/
def lenD (d : D) : Res Int := match d with | .lst l => .ok l.length | .tup l => .ok l.length | .str x => .ok x.length | _ => .stuck
section
variable {K : PySem.W.Frag} {B H : Hp} {Q : VK} {v : V} {d : D} {σ : L2.St} {g : TGs}
theorem Post.lenD {β : Type} {k : Int → Res β} {P : β → Prop} {R : Err → Prop} (h : Post ((Y.lenD d).bind k) P R) (hs : ∀ x, d ≠ .str x) : ∃ ds : List D, (d = .lst ds ∨ d = .tup ds) ∧ Post (k ds.length) P R := by
  cases d with
  | lst l => exact ⟨l, .inl rfl, h⟩
  | tup l => exact ⟨l, .inr rfl, h⟩
  | str x => exact absurd rfl (hs x)
  | _ => exact h.elim
theorem h_tupG {n : Nat} {p : Addr} {xs : List V} {N : L2.St → Hp → Prop} (s : SqT K H p xs) (hl : xs.length = n) (h : g xs σ H N) : gTup K n g (.ref p) σ H N := ⟨p, xs, rfl, s, hl, h⟩
theorem h_gcons {t : TG} {u : TGs} {x : V} {xs : List V} {N : L2.St → Hp → Prop} (h : t x σ H fun σ' H' => u xs σ' H' N) : gCons t u (x :: xs) σ H N := ⟨x, xs, rfl, h⟩
theorem h_gnil {N : L2.St → Hp → Prop} (h : N σ H) : gNil [] σ H N := ⟨rfl, h⟩
end

section
variable {K : PySem.W.Frag} {B H : Hp} {Q : VK} {p : Addr} {xs : List V} {d1 d2 d3 d4 d5 : D}
theorem h_lenTl {l : List D} (s : SqT K H p xs) (r : RepL K B xs (l.map enc)) (h : Q (.int l.length) H) : rLenY K [V.ref p] H Q := by
  refine ⟨p, xs, rfl, .inr s, ?_⟩
  rw [show xs.length = l.length from by rw [r.length, List.length_map]]
  exact h
theorem tup2 {x y : V} (hl : xs.length = 2) (h0 : atI xs 0 = some x) (h1 : atI xs 1 = some y) : xs = [x, y] := by
  match xs, hl with
  | [a, b], _ =>
    have e0 : a = x := Option.some.inj h0
    have e1 : b = y := Option.some.inj h1
    rw [e0, e1]
theorem tup3 {x y z : V} (hl : xs.length = 3) (h0 : atI xs 0 = some x) (h1 : atI xs 1 = some y) (h2 : atI xs 2 = some z) : xs = [x, y, z] := by
  match xs, hl with
  | [a, b, c], _ =>
    have e0 : a = x := Option.some.inj h0
    have e1 : b = y := Option.some.inj h1
    have e2 : c = z := Option.some.inj h2
    rw [e0, e1, e2]
theorem tup4 {x y z u : V} (hl : xs.length = 4) (h0 : atI xs 0 = some x) (h1 : atI xs 1 = some y) (h2 : atI xs 2 = some z) (h3 : atI xs 3 = some u) : xs = [x, y, z, u] := by
  match xs, hl with
  | [a, b, c, d], _ =>
    have e0 : a = x := Option.some.inj h0
    have e1 : b = y := Option.some.inj h1
    have e2 : c = z := Option.some.inj h2
    have e3 : d = u := Option.some.inj h3
    rw [e0, e1, e2, e3]
theorem RepL.open2 (r : RepL K B xs [d1, d2]) : ∃ u1 u2, xs = [u1, u2] ∧ Rep K B u1 d1 ∧ Rep K B u2 d2 := by
  cases r with | cons h1 r => cases r with | cons h2 r => cases r; exact ⟨_, _, rfl, h1, h2⟩
theorem RepL.open3 (r : RepL K B xs [d1, d2, d3]) : ∃ u1 u2 u3, xs = [u1, u2, u3] ∧ Rep K B u1 d1 ∧ Rep K B u2 d2 ∧ Rep K B u3 d3 := by
  cases r with | cons h1 r => cases r with | cons h2 r => cases r with | cons h3 r => cases r; exact ⟨_, _, _, rfl, h1, h2, h3⟩
theorem RepL.open4 (r : RepL K B xs [d1, d2, d3, d4]) : ∃ u1 u2 u3 u4, xs = [u1, u2, u3, u4] ∧ Rep K B u1 d1 ∧ Rep K B u2 d2 ∧ Rep K B u3 d3 ∧ Rep K B u4 d4 := by
  cases r with | cons h1 r => cases r with | cons h2 r => cases r with | cons h3 r => cases r with | cons h4 r => cases r; exact ⟨_, _, _, _, rfl, h1, h2, h3, h4⟩
end
/-! ### defs with defaults -/
structure FunV (K : PySem.W.Frag) (x qual : Str) (st : Stmt) (dv : List Value) (f : Addr) (fd : FuncData) : Prop where
  ex : ∃ (oc : Value) (od : Option Addr) (T : Addr) (o : Obj) (n : Nat) (kV doc pm : Value) (an : Option Addr) (cdv ct : Value) (osl : Array (Option Value)),
    fd = PySem.W.fnOf x qual (defArgs st) (defBody st) (defScope st) (.ref T) kV doc pm an cdv ct ∧ K.lookup f = some ⟨oc, od, .func fd, osl⟩ ∧ PySem.W.codeIn K cdv qual = true ∧ K.lookup T = some o ∧ o.data = .seq dv.toArray n
  kp : PySem.W.keepIn K (.ref f) = true
section
variable {P : Program} {w : World} {K : PySem.W.Frag} {mg : Str → Option Value} {base : Heap} {x qual : Str} {st : Stmt} {dv : List Value} {f : Addr} {fd : FuncData} {ps ks : List Str}
theorem funV_mk {oc : Value} {od an oT : Option Addr} {osl sT : Array (Option Value)} {kV doc pm cdv ct cT : Value} {T : Addr} {n : Nat} (l : K.lookup f = some ⟨oc, od, .func (PySem.W.fnOf x qual (defArgs st) (defBody st) (defScope st) (.ref T) kV doc pm an cdv ct), osl⟩)
    (c : PySem.W.codeIn K cdv qual = true) (k : PySem.W.keepIn K (.ref f) = true) (lT : K.lookup T = some ⟨cT, oT, .seq dv.toArray n, sT⟩) : FunV K x qual st dv f (PySem.W.fnOf x qual (defArgs st) (defBody st) (defScope st) (.ref T) kV doc pm an cdv ct) :=
  ⟨⟨oc, od, T, _, n, kV, doc, pm, an, cdv, ct, osl, rfl, l, c, lT, rfl⟩, k⟩
theorem FunV.okX {N : List Str} {k : Nat} {sp : Sp} (F : FunV K x qual st dv f fd) (S : FnScope N ps (defScope st)) (len : ∀ vs H Q E, sp vs H Q E → vs.length = ps.length)
    (hbody : ∀ (cdv : Value) (A : Around) (outer : List Env) (s : Shared) (H : Hp) (vs : List V) (Q : VK) (E : XK), Room k (A.deeper (envOfC qual (defScope st) s.heap.objs.size f cdv)) → sp vs H Q E →
      ∃ t, PSs (cxOf (L2.CX P w) P w K mg base N qual (defScope st) f cdv A outer s H E) (defBody st) t ∧ t { nx := fun _ H' => Q .non H', rt := Q } (start N vs) H) : FnOk P w K mg base (L2.CX P w) (k + 1) f fd ps sp := by
  obtain ⟨oc, od, T, o, n, kV, doc, pm, an, cdv, ct, osl, rfl, lk, hcd, _, _⟩ := F.ex
  exact fn_of lk hcd S len fun A outer s H vs Q E hr hsp => hbody cdv A outer s H vs Q E hr hsp
theorem FunV.ok {N : List Str} {k : Nat} {sp : Sp} (F : FunV K x qual st dv f fd) (S : FnScope N ps (defScope st)) (len : ∀ vs H Q E, sp vs H Q E → vs.length = ps.length)
    (hbody : ∀ (cdv : Value) (A : Around) (outer : List Env) (s : Shared) (H : Hp) (vs : List V) (Q : VK) (E : XK), Room k (A.deeper (envOfC qual (defScope st) s.heap.objs.size f cdv)) → sp vs H Q E →
      ∃ t, PSs (cxOf CX0 P w K mg base N qual (defScope st) f cdv A outer s H E).nox (defBody st) t ∧ t { nx := fun _ H' => Q .non H', rt := Q } (start N vs) H) : FnOk P w K mg base CX0 (k + 1) f fd ps sp := by
  obtain ⟨oc, od, T, o, n, kV, doc, pm, an, cdv, ct, osl, rfl, lk, hcd, _, _⟩ := F.ex
  refine fn_of lk hcd S len fun A outer s H vs Q E hr hsp => ?_
  obtain ⟨t, h, q⟩ := hbody cdv A outer s H vs Q E hr hsp
  exact ⟨t, h.nox, q⟩
/-- n values are written, the defaults behind the first j fill up -/
theorem FunV.binds (F : FunV K x qual st dv f fd) (n j : Nat) (hn : n + (dv.length - j) = ps.length)
    (h : ∀ (T : Addr) (kV doc pm : Value) (an : Option Addr) (cdv ct : Value) (us : List Value), us.length = n →
      ∃ k, bindArgs (PySem.W.fnOf x qual (defArgs st) (defBody st) (defScope st) (.ref T) kV doc pm an cdv ct) ⟨us, []⟩ = seqItems? (.ref T) >>= k ∧ k (some dv.toArray) = pure (ps.zip (us ++ dv.drop j))) : Binds K fd ps (dv.drop j) := by
  obtain ⟨oc, od, T, o, m, kV, doc, pm, an, cdv, ct, osl, rfl, lk, hcd, lT, oT⟩ := F.ex
  refine fun s us X hlen => ?_
  have l2 : us.length = n := by
    rw [List.length_append, List.length_drop] at hlen
    omega
  obtain ⟨k, e1, e2⟩ := h T kV doc pm an cdv ct us l2
  refine BindsTo.of_looks fun M => ?_
  rw [e1]
  exact looks_items X lT oT (.of_pure e2)
theorem FunV.kb {g : List Value → List Value → List Value} {gV : List V → List V → List V} (F : FunV K x qual st dv f fd)
    (h : ∀ (T : Addr) (kV doc pm : Value) (an : Option Addr) (cdv ct : Value) (us ws : List Value), (g us ws).length = ps.length → ∃ k, bindArgs (PySem.W.fnOf x qual (defArgs st) (defBody st) (defScope st) (.ref T) kV doc pm an cdv ct) ⟨us, ks.zip ws⟩ = seqItems? (.ref T) >>= k ∧ k (some dv.toArray) = pure (ps.zip (g us ws)))
    (r : ∀ {vs : List V} {us : List Value} {zs : List V} {ws : List Value}, Vals vs us → Vals zs ws → Vals (gV vs zs) (g us ws)) : KBinds K fd ps ks g gV := by
  obtain ⟨oc, od, T, o, m, kV, doc, pm, an, cdv, ct, osl, rfl, lk, hcd, lT, oT⟩ := F.ex
  refine ⟨fun s us ws X hl => ?_, r⟩
  obtain ⟨k, e1, e2⟩ := h T kV doc pm an cdv ct us ws hl
  refine BindsTo.of_looks fun M => ?_
  rw [e1]
  exact looks_items X lT oT (.of_pure e2)
end
/-! ### // by what may be negative -/
def CDivZ (_ j : Int) : Prop := j ≠ 0 ∧ j.natAbs.log2 < 9000
instance {i j : Int} : Decidable (CDivZ i j) := inferInstanceAs (Decidable (_ ∧ _))
theorem op_fdivZ {X : Cx} : OpR X (binaryOp .FloorDiv) (rI CDivZ fun i j => .int (Int.fdiv i j)) := opI fun i j _ _ _ _ _ hc q => floordiv_int hc.1 q (.inl (PyProof.noPylong_of_log2 hc.2))
/-! ### x is None -/
def isNonD : D → Bool | .non => true | _ => false
def rIsN : V → V → Hp → VK → Prop := fun x y H Q => y = .non ∧ Q (.bl (decide (x = .non))) H
def rNotN : V → V → Hp → VK → Prop := fun x y H Q => y = .non ∧ Q (.bl (!decide (x = .non))) H
theorem op_isNn {X : Cx} : OpR X (compareOp .Is) rIsN := op_isN
theorem op_notNn {X : Cx} : OpR X (compareOp .IsNot) rNotN := op_notN
section
variable {K : PySem.W.Frag} {B H : Hp} {Q : VK} {v : V} {d : D}
theorem Rep.isNon (r : Rep K B v d) : decide (v = .non) = isNonD d := by
  cases r <;> rfl
theorem h_isN (r : Rep K B v d) (h : Q (.bl (isNonD d)) H) : rIsN v .non H Q := ⟨rfl, by rw [r.isNon]; exact h⟩
theorem h_notN (r : Rep K B v d) (h : Q (.bl (!isNonD d)) H) : rNotN v .non H Q := ⟨rfl, by rw [r.isNon]; exact h⟩
end
/-! ### bool + bool, comparisons of lists, xs[::-1], xs.pop(i) -/
theorem int_add_bb (a b : Bool) : Gives (Builtin.«int.__add__» ⟨[.bool a, .bool b], []⟩) (.int ((if a = true then (1 : Int) else 0) + (if b = true then (1 : Int) else 0))) :=
  .of_wp fun M A E s Q h => by obtain ⟨hp, g, d, tk, os⟩ := s; wp_walk; exact ⟨_, rfl, h⟩
def rAddBB : V → V → Hp → VK → Prop := fun x y H Q => ∃ a b, x = .bl a ∧ y = .bl b ∧ Q (.int (b2z a + b2z b)) H
theorem op_addBB {X : Cx} : OpR X (binaryOp .Add) rAddBB := by
  intro pins s σ H x y v u Q I rx ry h
  obtain ⟨a, b, rfl, rfl, q⟩ := h
  cases rx
  cases ry
  exact binaryOp_gives (op := .Add) (T := "bool") rfl rfl F.fills_bool_add F.slot_bool_add F.entry_int_add (F.args_int_add_2 _ _) (int_add_bb a b) trivial ⟨.int (b2z a + b2z b), H, I.tok _, ⟨_, rfl⟩, q⟩
def rAddIB : V → V → Hp → VK → Prop := fun x y H Q => ∃ i k, x = .int i ∧ y = .bl k ∧ Q (.int (i + b2i k)) H
theorem op_addIB {X : Cx} : OpR X (binaryOp .Add) rAddIB := op_add_ib
section
variable {K : PySem.W.Frag} {B B' H H' : Hp} {σ : L2.St} {Q : VK} {x y v : V} {d e : D} {p q : Addr} {xs ys : List V} {te : TE}
theorem h_addBB {a b : Bool} (h : Q (.int (b2z a + b2z b)) H) : rAddBB (.bl a) (.bl b) H Q := ⟨a, b, rfl, rfl, h⟩
theorem h_addIB {i : Int} {k : Bool} (h : Q (.int (i + b2z k)) H) : rAddIB (.int i) (.bl k) H Q := ⟨i, k, rfl, rfl, by cases k <;> exact h⟩
/-- what may be compared as data -/
def Cmp (K : PySem.W.Frag) (H : Hp) (v : V) (d : D) : Prop := flatD d = true → Dp K H v (pyD d)
theorem Rep.cp (w : Ex B H) (r : Rep K B v d) : Cmp K H v d := r.dp w
theorem SqL.cp {ds : List D} (w : Ex B H) (s : SqL K H p xs) (r : RepL K B xs ds) : Cmp K H (.ref p) (.lst ds) := fun f => .lst s (RepL.dp w r f)
theorem h_eqC (rx : Cmp K H x d) (ry : Cmp K H y e) (o : okEq d e) (h : Q (.bl (eqD d e)) H) : rEqD K x y H Q := ⟨_, _, rx o.1, ry o.2.1, o.2.2.1, o.2.2.2, h⟩
theorem h_neC (rx : Cmp K H x d) (ry : Cmp K H y e) (o : okEq d e) (h : Q (.bl (!eqD d e)) H) : rNeD K x y H Q := ⟨_, _, rx o.1, ry o.2.1, o.2.2.1, o.2.2.2, h⟩
/-- xs[::-1] -/
theorem h_revL (h : te σ H fun x H1 => ∃ a xs, x = .ref a ∧ SqL K H1 a xs ∧ NwL xs.reverse H1 Q) : tRevL K te σ H Q := h
theorem h_revQ (s : SqL K H p xs) (h : NwL xs.reverse H Q) : ∃ a ys, V.ref p = .ref a ∧ SqL K H a ys ∧ NwL ys.reverse H Q := ⟨p, xs, rfl, s, h⟩
theorem RepL.rev0 : ∀ {xs : List V} {ds : List D}, RepL K B xs ds → RepL K B xs.reverse ds.reverse
  | _, _, .nil => .nil
  | _, _, .cons h t => by rw [List.reverse_cons, List.reverse_cons]; exact (RepL.rev0 t).append (.cons h .nil)
theorem RepL.rev {α : Type} [Enc α] {l : List α} (r : RepL K B xs (l.map enc)) : RepL K B xs.reverse (l.reverse.map enc) := by
  rw [List.map_reverse]
  exact RepL.rev0 r
theorem RepL.erase : ∀ {xs : List V} {ds : List D} (k : Nat), RepL K B xs ds → RepL K B (xs.eraseIdx k) (ds.eraseIdx k)
  | _, _, _, .nil => .nil
  | _, _, 0, .cons h t => t
  | _, _, k + 1, .cons h t => .cons h (RepL.erase k t)
theorem map_erase {α : Type} [Enc α] : ∀ (l : List α) (k : Nat), (l.eraseIdx k).map (enc : α → D) = (l.map enc).eraseIdx k
  | [], _ => rfl
  | _ :: _, 0 => rfl
  | x :: xs, k + 1 => congrArg (enc x :: ·) (map_erase xs k)
/-- l.pop(i), i from 0 on -/
def popR {α : Type} (l : List α) (i : Int) : Res (α × List α) := if 0 ≤ i ∧ i < (l.length : Int) ∧ l.length ≤ 1000000 then match l[i.toNat]? with | some x => .ok (x, l.eraseIdx i.toNat) | none => .stuck else .stuck
theorem Post.pop {α β : Type} {l : List α} {i : Int} {k : α × List α → Res β} {P : β → Prop} {R : Err → Prop} (h : Post ((popR l i).bind k) P R) : ∃ x, (0 ≤ i ∧ i < (l.length : Int) ∧ l.length ≤ 1000000) ∧ l[i.toNat]? = some x ∧ Post (k (x, l.eraseIdx i.toNat)) P R := by
  unfold popR at h
  by_cases c : 0 ≤ i ∧ i < (l.length : Int) ∧ l.length ≤ 1000000
  · rw [if_pos c] at h
    cases e : l[i.toNat]? with
    | none => rw [e] at h; exact h.elim
    | some x => rw [e] at h; exact ⟨x, c, rfl, h⟩
  · rw [if_neg c] at h; exact h.elim
theorem h_popL {α : Type} [Enc α] {l : List α} {i : Int} {b : α} (w : Ex B H) (m : Mu K B H p (l.map enc)) (hi : 0 ≤ i ∧ i < (l.length : Int) ∧ l.length ≤ 1000000) (hb : l[i.toNat]? = some b)
    (h : ∀ y H', Stp [p] B H B H' → Mu K B H' p ((l.eraseIdx i.toNat).map enc) → Rep K B y (enc b) → Q y H') : rPopAt (.ref p) [.int i] H Q := by
  obtain ⟨hb0, xs, hp, hr⟩ := id m
  have hl : xs.length = l.length := by rw [hr.length, List.length_map]
  obtain ⟨u, hu, ru⟩ := hr.get (i := i.toNat) (d := enc b) (by rw [List.getElem?_map, hb]; rfl)
  have rl : RepL K B (xs.eraseIdx i.toNat) ((l.eraseIdx i.toNat).map enc) := by
    rw [map_erase]
    exact RepL.erase _ hr
  refine ⟨p, xs, i, i.toNat, u, rfl, rfl, hp, by omega, by omega, ?_, hu, ?_⟩
  · unfold seqIndex?
    rw [hl]
    simp [show ¬ i < 0 from by omega, hi.1, hi.2.1]
  · obtain ⟨s, m'⟩ := Stp.mut w m rl
    exact h _ _ s m' ru
end
theorem pg_tupK {X : Cx} {pos : Pos} {es : List Expr} {k : Nat} {t : TGs} {n : Nat} {K : PySem.W.Frag} (hc : X.calm = true) (hK : X.K = K) (h : PGs X es t)
    (hn : (assignEach es X.env).length = n := by rfl) (hst : (assignEach es X.env).findIdx? (·.1) = none := by rfl) : PG X (.Tuple es k pos) (gTup K n t) := hK ▸ pg_tup hc h hn hst
/-! ### l * k, casts, constants -/
theorem list_mulW (l : Addr) (items : Array Value) (n : Nat) (dd : Option Addr) (sl : Array (Option Value)) (x : Int) (u : Tok) (hc0 : ¬(!Builtin.List.listFitsIndex x) = true) (hc1 : ¬items.size * x.toNat > (2 ^ 63 - 1) / 8) (hc2 : ¬Builtin.List.listTooLong (items.size * x.toNat) = true) :
    Meets (Builtin.«list.__mul__» ⟨[.ref l, .int x u], []⟩) (fun _ R s => s.heap.get? l = some { cls := .type "list", dict := dd, data := .seq items n, slots := sl } ∧ R (.ok (.ret (Value.ref s.heap.objs.size))) { s with heap := s.heap.push { cls := Value.type "list", data := Data.seq (List.foldl (fun x1 x2 => x1 ++ x2) #[] (List.replicate (if items.isEmpty = true then 0 else x.toNat) items)) }, toks := s.toks }) :=
  .of_wp fun prog w A R s h => by
    obtain ⟨hp, g, d, tk, os⟩ := s; obtain ⟨hl, h⟩ := h
    have hsz := PySem.AutoListH.joined_fits hc2
    wp_walk; refine wpAny_ite_false (decide_eq_false (Nat.not_lt.mpr hsz)) ?_; wp_walk; exact ⟨_, rfl, h⟩
theorem int_rmulW (a : Int) (t : Tok) (l : Addr) (items : Array Value) (n : Nat) (dd : Option Addr) (sl : Array (Option Value)) :
    Meets (Builtin.«int.__rmul__» ⟨[.int a t, .ref l], []⟩) (fun _ R s => s.heap.get? l = some { cls := .type "list", dict := dd, data := .seq items n, slots := sl } ∧ R (.ok (.ret Value.notImplemented)) s) :=
  .of_wp fun prog w A R s h => by obtain ⟨hp, g, d, tk, os⟩ := s; obtain ⟨hl, h⟩ := h; wp_walk; exact ⟨_, rfl, h⟩
def rRepQ (K : PySem.W.Frag) : R2 := fun x y H Q => ∃ l k xs, x = .ref l ∧ y = .int k ∧ SqL K H l xs ∧ -(2 ^ 63) ≤ k ∧ k < 2 ^ 63 ∧ xs.length * k.toNat ≤ sizeLine ∧ NwL (List.replicate k.toNat xs).flatten H Q
theorem op_repQ {X : Cx} : OpR X (binaryOp .Mult) (rRepQ X.K) := by
  intro pins s σ H x y v u Q I rx ry h
  obtain ⟨l, k, xs, rfl, rfl, hH, h1, h2, hz, q⟩ := h
  cases rx
  obtain ⟨t, rfl⟩ := ry
  obtain ⟨its, r, p1, z⟩ := I.list hH
  have hl := r.length
  obtain ⟨⟨cls, dd, data, sl⟩, e, hc, n, hd⟩ := p1.isList
  simp only at hc hd
  subst hc hd
  have hlen : its.toArray.size * k.toNat ≤ sizeLine := by rw [List.size_toArray, ← hl]; exact hz
  have hcap : ¬ its.toArray.size * k.toNat > (2 ^ 63 - 1) / 8 := by
    have : (sizeLine : Nat) ≤ (2 ^ 63 - 1) / 8 := by decide
    omega
  have hfit : ¬ (!Builtin.List.listFitsIndex k) = true := by
    rw [fitsIndex_both h1 h2]
    exact Bool.false_ne_true
  have hlong : ¬ Builtin.List.listTooLong (its.toArray.size * k.toNat) = true := by
    rw [notLongL hlen]
    exact Bool.false_ne_true
  have hnew : List.foldl (fun x1 x2 => x1 ++ x2) #[] (List.replicate (if its.toArray.isEmpty = true then 0 else k.toNat) its.toArray) = (List.replicate k.toNat its).flatten.toArray := by
    have f0 : ∀ m : Nat, List.foldl (fun x1 x2 => x1 ++ x2) #[] (List.replicate m its.toArray) = (List.replicate m its).flatten.toArray := fun m => by
      have := foldl_rep its m []
      rw [List.nil_append] at this
      exact this
    rw [f0]
    cases its with
    | nil => simp
    | cons a r' => rw [if_neg (by simp)]
  refine wpAny_binaryOp_repeat_ref (T := "list") (U := "int") (by decide) ⟨_, e, rfl⟩ (fun s' => typeIs_int s' k t) noFill_list_mul F.fills_int_mul F.slot_int_rmul repeat_list F.slot_int_index.lookup
    (call_meets F.slot_int_rmul (typeIs_int s k t) F.entry_int_rmul (F.args_int_rmul_2 _ _) (int_rmulW k t l its.toArray n dd sl)
      ⟨e, rfl, ⟨_, e, rfl⟩, call_meets F.slot_list_mul ⟨_, e, rfl⟩ F.entry_list_mul (F.args_list_mul_2 _ _) (list_mulW l its.toArray n dd sl k t hfit hcap hlong) ⟨e, ?_⟩⟩)
  rw [hnew]
  exact ⟨.ref _, _, I.lnew (t' := s.toks) (r.rep k.toNat) (by rw [PyProof.Rows.lm_len_rep_flat, Nat.mul_comm]; exact hz), rfl, q _ I.fresh⟩
section
variable {K : PySem.W.Frag} {B B' H H' : Hp} {σ : L2.St} {Q : VK} {x y v : V} {d e : D} {p q : Addr} {xs ys : List V} {te : TE}
theorem h_repQ {k : Int} {n : Nat} (s : SqL K H p xs) (hn : xs.length = n) (hz : n * k.toNat ≤ 1000000 ∧ -(2 ^ 62) ≤ k ∧ k < 2 ^ 62) (h : NwL (List.replicate k.toNat xs).flatten H Q) : rRepQ K (.ref p) (.int k) H Q :=
  ⟨p, k, xs, rfl, rfl, s, by omega, by omega, by rw [hn]; exact Nat.le_trans hz.1 (by decide), h⟩
theorem RepL.rep0 {ds : List D} (r : RepL K B xs ds) : ∀ k : Nat, RepL K B (List.replicate k xs).flatten (List.replicate k ds).flatten
  | 0 => .nil
  | k + 1 => by rw [List.replicate_succ, List.replicate_succ, List.flatten_cons, List.flatten_cons]; exact r.append (RepL.rep0 r k)
/-- l * k -/
def timesL {α : Type} (l : List α) (k : Int) : List α := (List.replicate k.toNat l).flatten
theorem RepL.times {α : Type} [Enc α] {l : List α} (r : RepL K B xs (l.map enc)) (k : Int) : RepL K B (List.replicate k.toNat xs).flatten ((timesL l k).map enc) := by
  have e : (timesL l k).map (enc : α → D) = (List.replicate k.toNat (l.map enc)).flatten := by
    unfold timesL
    rw [List.map_flatten, List.map_replicate]
  rw [e]
  exact r.rep0 _
/-- isinstance of a list that is only read, or of our own -/
theorem isiL {t : String} {l : List D} (s : SqL K H p xs) (q : Q (.bl (isA t (.lst l))) H) (ht : t ∈ ["bool", "int", "str", "list", "tuple", "dict"] := by simp) : rIsi K [.ref p, .ty t] H Q := by
  have ty : TyX K H (.ref p) (.type "list") := by
    rcases s with (h | ⟨o, h⟩) | ⟨o, its, n, h, hc, _⟩
    · exact .base (.lst h)
    · exact .base (.frz h)
    · exact .kList h hc
  exact ⟨.ref p, .ty t, _, .type t, isA t (.lst l), rfl, .ty t, ty, kit_ty (kit_tab _ (tyD_in (.lst l)) _ ht), q⟩
end
/-! ### things read as what they are -/
class Dec (α : Type) [Enc α] where
  dec : D → Option α
  ok : ∀ d x, dec d = some x → d = enc x
instance : Dec D := ⟨fun d => some d, fun d x e => Option.some.inj e⟩
instance : Dec Int := ⟨fun d => match d with | .int i => some i | _ => none, fun d x e => by cases d <;> simp at e; rw [e]; rfl⟩
instance : Dec Bool := ⟨fun d => match d with | .bl i => some i | _ => none, fun d x e => by cases d <;> simp at e; rw [e]; rfl⟩
instance : Dec Str := ⟨fun d => match d with | .str i => some i | _ => none, fun d x e => by cases d <;> simp at e; rw [e]; rfl⟩
instance {α : Type} [Enc α] [Dec α] : Dec (Option α) := ⟨fun d => match d with | .non => some none | d => (Dec.dec d).map some, fun d x e => by
  cases d with
  | non => cases Option.some.inj e; rfl
  | _ => all_goals
    obtain ⟨y, e1, e2⟩ := Option.map_eq_some_iff.mp (show Option.map some _ = some x from e)
    rw [← e2]
    show _ = (enc y : D)
    exact Dec.ok _ _ e1⟩
instance {α β : Type} [Enc α] [Enc β] [Dec α] [Dec β] : Dec (Tp2 α β) := ⟨fun d => match d with | .tup [a, b] => (Dec.dec a).bind fun x => (Dec.dec b).bind fun y => some ⟨x, y⟩ | _ => none, fun d x e => by
  split at e
  · obtain ⟨u, e1, e⟩ := Option.bind_eq_some_iff.mp e
    obtain ⟨w, e2, e⟩ := Option.bind_eq_some_iff.mp e
    cases Option.some.inj e
    rw [Dec.ok _ _ e1, Dec.ok _ _ e2]
    rfl
  · cases e⟩
instance {α β γ : Type} [Enc α] [Enc β] [Enc γ] [Dec α] [Dec β] [Dec γ] : Dec (Tp3 α β γ) := ⟨fun d => match d with | .tup [a, b, c] => (Dec.dec a).bind fun x => (Dec.dec b).bind fun y => (Dec.dec c).bind fun z => some ⟨x, y, z⟩ | _ => none, fun d x e => by
  split at e
  · obtain ⟨u, e1, e⟩ := Option.bind_eq_some_iff.mp e
    obtain ⟨w, e2, e⟩ := Option.bind_eq_some_iff.mp e
    obtain ⟨w2, e3, e⟩ := Option.bind_eq_some_iff.mp e
    cases Option.some.inj e
    rw [Dec.ok _ _ e1, Dec.ok _ _ e2, Dec.ok _ _ e3]
    rfl
  · cases e⟩
def decs {α : Type} [Enc α] [Dec α] : List D → Option (List α)
  | [] => some []
  | d :: ds => (Dec.dec d).bind fun x => (decs ds).bind fun xs => some (x :: xs)
theorem decs_ok {α : Type} [Enc α] [Dec α] : ∀ (ds : List D) (l : List α), decs ds = some l → ds = l.map enc
  | [], l, e => by cases Option.some.inj e; rfl
  | d :: ds, l, e => by
    obtain ⟨u, e1, e⟩ := Option.bind_eq_some_iff.mp e
    obtain ⟨w, e2, e⟩ := Option.bind_eq_some_iff.mp e
    cases Option.some.inj e
    rw [Dec.ok _ _ e1, decs_ok _ _ e2]
    rfl
instance {α : Type} [Enc α] [Dec α] : Dec (List α) := ⟨fun d => match d with | .lst ds => decs ds | _ => none, fun d x e => by
  split at e
  · rw [decs_ok _ _ e]; rfl
  · cases e⟩
def asD (α : Type) [Enc α] [Dec α] (d : D) : Res α := match Dec.dec d with | some x => .ok x | none => .stuck
theorem Post.asD {α β : Type} [Enc α] [Dec α] {d : D} {k : α → Res β} {P : β → Prop} {R : Err → Prop} (h : Post ((Y.asD α d).bind k) P R) : ∃ x, d = enc x ∧ Post (k x) P R := by
  unfold Y.asD at h
  cases e : Dec.dec (α := α) d with
  | none => rw [e] at h; exact h.elim
  | some x => rw [e] at h; exact ⟨x, Dec.ok _ _ e, h⟩
/-- what is there -/
def someR {α : Type} (o : Option α) : Res α := match o with | some x => .ok x | none => .stuck
theorem Post.some {α β : Type} {o : Option α} {k : α → Res β} {P : β → Prop} {R : Err → Prop} (h : Post ((someR o).bind k) P R) : ∃ x, o = Option.some x ∧ Post (k x) P R := by
  cases o with
  | none => exact h.elim
  | some x => exact ⟨x, rfl, h⟩
/-- a constant of the module: data that is written out -/
structure CT {α : Type} [Enc α] (K : PySem.W.Frag) (mg : Str → Option Value) (nm : Str) (C : Addr) (x : α) : Prop where
  g : mg nm = Option.some (.ref C)
  rep : ∀ B, Rep K B (.ref C) (enc x)
/-! ### defs that hand a new list back; l.pop() -/
def RetF (K : PySem.W.Frag) (W : List Addr) (B H : Hp) (ds : List D) (Q : VK) : Prop := ∀ p B' H', Stp W B H B' H' → H p = none → Mu K B' H' p ds → Q (.ref p) H'
def RetMF (K : PySem.W.Frag) (q : Addr) (B H : Hp) (ds es : List D) (Q : VK) : Prop := ∀ p B' H', Stp [q] B H B' H' → H p = none → Mu K B' H' p ds → Mu K B' H' q es → Q (.ref p) H'
def popE {α : Type} (l : List α) : Res (α × List α) := match l[l.length - 1]? with | some x => .ok (x, l.dropLast) | none => .stuck
theorem Post.popE {α β : Type} {l : List α} {k : α × List α → Res β} {P : β → Prop} {R : Err → Prop} (h : Post ((Y.popE l).bind k) P R) : ∃ x, l[l.length - 1]? = Option.some x ∧ Post (k (x, l.dropLast)) P R := by
  unfold Y.popE at h
  cases e : l[l.length - 1]? with
  | none => rw [e] at h; exact h.elim
  | some x => rw [e] at h; exact ⟨x, rfl, h⟩
section
variable {K : PySem.W.Frag} {B H : Hp} {Q : VK} {p : Addr} {xs : List V}
theorem RepL.dropLast : ∀ {xs : List V} {ds : List D}, RepL K B xs ds → RepL K B xs.dropLast ds.dropLast
  | _, _, .nil => .nil
  | _, _, .cons _ .nil => .nil
  | _, _, .cons h (.cons h2 t) => .cons h (RepL.dropLast (.cons h2 t))
theorem h_popE {α : Type} [Enc α] {l : List α} {b : α} (w : Ex B H) (m : Mu K B H p (l.map enc)) (hb : l[l.length - 1]? = some b)
    (h : ∀ y H', Stp [p] B H B H' → Mu K B H' p (l.dropLast.map enc) → Rep K B y (enc b) → Q y H') : rPop (.ref p) [] H Q := by
  obtain ⟨hb0, xs, hp, hr⟩ := id m
  have hl : xs.length = l.length := by rw [hr.length, List.length_map]
  obtain ⟨u, hu, ru⟩ := hr.get (i := l.length - 1) (d := enc b) (by rw [List.getElem?_map, hb]; rfl)
  have rl : RepL K B xs.dropLast (l.dropLast.map enc) := by
    rw [List.map_dropLast]
    exact RepL.dropLast hr
  obtain ⟨s, m'⟩ := Stp.mut w m rl
  exact ⟨p, xs, u, rfl, rfl, hp, by rw [hl]; exact hu, h _ _ s m' ru⟩
end
end Y

set_option Elab.async false
set_option linter.all false
set_option maxRecDepth 100000
set_option maxHeartbeats 2000000
namespace Y
open PySem PySem.Spec PyProof.Rows
open L2
open Enc (enc)
/-! # more readings: max of two, insert, enumerate -/
theorem h_fr {t : TS} {D' : Ends} {σ σ' : L2.St} {H : Hp} (e : σ = σ') (h : t D' σ' H) : t D' σ H := by rw [e]; exact h
def maxI (i j : Int) : Int := if j > i then j else i
def rMaxY : List V → Hp → VK → Prop := fun xs H Q => ∃ i j, xs = [.int i, .int j] ∧ Q (.int (if j > i then j else i)) H
theorem cr_max {X : Cx} (hc : X.calm = true) : CallR X (.builtin "max") rMaxY := call_max2 hc
theorem h_max {i j : Int} {H : Hp} {Q : VK} (h : Q (.int (maxI i j)) H) : rMaxY [.int i, .int j] H Q := ⟨i, j, rfl, h⟩
def rInsY : V → List V → Hp → VK → Prop := fun x vs H Q => ∃ (l : Addr) (xs : List V) (i : Int) (y : V), x = .ref l ∧ vs = [.int i, y] ∧ H l = some (.lst xs) ∧ xs.length < sizeLine ∧ 0 ≤ i ∧ i < 2 ^ 63 ∧ Q .non (upd H l (.lst (xs.take i.toNat ++ [y] ++ xs.drop i.toNat)))
theorem mt_insY {X : Cx} : MtR X "list.insert" rInsY := mt_insert
def insL {α : Type} (l : List α) (i : Int) (b : α) : List α := l.take i.toNat ++ [b] ++ l.drop i.toNat
section
variable {K : PySem.W.Frag} {B B' H H' : Hp} {Q : VK} {p : Addr} {y : V} {i : Int}
theorem h_insert {α : Type} [Enc α] {l : List α} {b : α} (w : Ex B H) (m : Mu K B H p (l.map enc)) (ry : Rep K B y (enc b)) (hz : l.length < 1000000 ∧ 0 ≤ i ∧ i < 2 ^ 63) (h : ∀ H', Stp [p] B H B H' → Mu K B H' p ((insL l i b).map enc) → Q .non H') : rInsY (.ref p) [.int i, y] H Q := by
  obtain ⟨hb, xs, hp, hr⟩ := id m
  refine ⟨p, xs, i, y, rfl, rfl, hp, by rw [hr.length, List.length_map]; exact Nat.lt_of_lt_of_le hz.1 (by decide), hz.2.1, hz.2.2, ?_⟩
  have rl : RepL K B (xs.take i.toNat ++ [y] ++ xs.drop i.toNat) ((insL l i b).map enc) := by
    unfold insL
    rw [List.map_append, List.map_append, List.map_take, List.map_drop]
    exact ((hr.take _).append (.cons ry .nil)).append (hr.drop _)
  obtain ⟨s, m'⟩ := Stp.mut w m rl
  exact h _ s m'
end
/-- the things with their places -/
def enumL {α : Type} (l : List α) : List (Tp2 Int α) := l.mapIdx fun i x => ⟨(i : Int), x⟩
def En (K : PySem.W.Frag) (vs : List V) (g : TG) (tb : TS) (D' : Ends) (σ : L2.St) (H : Hp) : Prop := tFor (iEnum K (fun _ H Q => Q vs H)) g tb D' σ H
section
variable {K : PySem.W.Frag} {σ : L2.St} {B H : Hp} {p : Addr} {xs : List V} {tb : TS} {D' : Ends} {g : TG} {α β S : Type} {P : β → Prop} {R : Err → Prop}
theorem h_enumE {ta : TA} (h : ta σ H fun vs H1 => En K vs g tb D' σ H1) : tFor (iEnum K ta) g tb D' σ H := h
theorem h_forEn [Enc α] {l : List α} {s0 : S} {f : Tp2 Int α → S → Res (Fl S β)} {k : S → Res β} (hP : Post ((forR (enumL l) s0 f).bind (afterR k)) P R) (hs : SqL K H p xs) (hr : RepL K B xs (l.map enc))
    (J : S → L2.St → Hp → Prop) (h0 : J s0 σ H) (hl : ∀ s σ' H', J s σ' H' → SqL K H' p xs)
    (hb : ∀ (N : L2.St → Hp → Prop) (T : Fl S β → Prop) (x : Tp2 Int α) u s σ' H', J s σ' H' → Rep K B u (enc x.b) → (∀ s' σ2 H2, J s' σ2 H2 → T (.nx s') → N σ2 H2) → (∀ r, T (.rt r) → P r) → (∀ s' σ2 H2, J s' σ2 H2 → T (.bk s') → D'.nx σ2 H2) → Post (f x s) T R →
      NewT [.int x.a, u] H' fun v H1 => g v σ' H1 fun σ2 H2 => tb { D' with nx := N, ct := N, bk := D'.nx } σ2 H2)
    (hd : ∀ s σ' H', J s σ' H' → Post (k s) P R → D'.nx σ' H') : En K [.ref p] g tb D' σ H := by
  refine ⟨p, xs, rfl, hs, for_it (n := xs.length) walk_enum (fun i σ' H' => ∃ s, J s σ' H' ∧ Post (forR ((enumL l).drop i) s f) (fun a => Post (afterR k a) P R) R) ⟨s0, h0, hP.bind⟩ (fun i σ' H' _ ⟨s, j, _⟩ => hl s σ' H' j) ?_ ?_⟩
  · rintro i v σ' H' H2 hi ⟨s, j, q⟩ ⟨T, y1, y2, rfl, hT, rfl, h1, h2⟩
    cases Option.some.inj h1
    have hll : xs.length = l.length := by rw [hr.length, List.length_map]
    have hil : i < l.length := by omega
    have hx : (enumL l)[i]? = some ⟨(i : Int), l[i]⟩ := by
      unfold enumL
      rw [List.getElem?_mapIdx, List.getElem?_eq_getElem hil]
      rfl
    obtain ⟨u, hu, ru⟩ := hr.get (i := i) (d := enc l[i]) (by rw [List.getElem?_map, List.getElem?_eq_getElem hil]; rfl)
    have h2 : xs[i]? = some y2 := h2
    rw [h2] at hu; cases hu
    exact (hb _ _ ⟨(i : Int), l[i]⟩ y2 s σ' H' j ru (fun s' σ2 H2 j2 t2 => ⟨s', j2, t2⟩) (fun r t2 => (t2 : Post (.ok r) P R).ok) (fun s' σ2 H2 j2 t2 => hd s' σ2 H2 j2 t2) (q.turn hx)).2 T hT
  · rintro σ' H' ⟨s, j, q⟩
    exact hd s σ' H' j (q.forN (by unfold enumL; rw [List.length_mapIdx, hr.length, List.length_map]; exact Nat.le_refl _))
end
end Y

set_option Elab.async false
set_option linter.all false
set_option maxRecDepth 100000
set_option maxHeartbeats 4000000
namespace Y
open PySem PySem.Spec PyProof.Rows
open L2
/-! # a try whose clauses may each have a name -/
/-- a clause: what it names, the slot of its name, its suite's reading -/
structure Cl where
  c : Value
  nm : Option Nat
  ts : Addr → Value → Option Addr → TS
def Cl.ends (k : Cl) (D : Ends) : Ends := match k.nm with
  | none => D
  | some i => ⟨fun σ H => D.nx (σ.set i none) H, D.rt, fun σ H => D.bk (σ.set i none) H, fun σ H => D.ct (σ.set i none) H⟩
def Cl.slots (k : Cl) (σ : L2.St) (a : Addr) : L2.St := match k.nm with | none => σ | some i => σ.set i (some (.ref a))
def wMix (K : PySem.W.Frag) (Wout : WX) (D : Ends) : List Cl → WX
  | [] => Wout
  | k :: r => fun cls d σ H => ∃ b, PySem.W.exmOne K cls k.c = some b ∧ (b = true → ∀ a, H a = none → k.ts a cls d (k.ends D) (k.slots σ a) H) ∧ (b = false → wMix K Wout D r cls d σ H)
abbrev SuOk (X : Cx) (b₀ : Stmt) (su : List Stmt) (ts : Addr → Value → Option Addr → TS) : Prop :=
  ∀ (a : Addr) (oe : Obj) (cls : Value) (d : Option Addr) (pn : List (Addr × Obj)), Zc cls d oe → (∃ vs, oe.data = .fields vs) → PSs (X.suite a ((a, oe) :: pn)) (b₀ :: su) (ts a cls d)
inductive Mix (X : Cx) : List ExceptHandler → List Cl → Prop
  | nil : Mix X [] []
  | plain {x : Str} {c : Value} {ts : Addr → Value → Option Addr → TS} {b₀ : Stmt} {su : List Stmt} {p q : Pos} {hs : List ExceptHandler} {ks : List Cl}
      (hc : Names X x c) (hsu : SuOk X b₀ su ts) (r : Mix X hs ks) : Mix X (.ExceptHandler (some (.Name x p)) none (b₀ :: su) q :: hs) (⟨c, none, ts⟩ :: ks)
  | named {x n : Str} {i : Nat} {c : Value} {ts : Addr → Value → Option Addr → TS} {b₀ : Stmt} {su : List Stmt} {p q : Pos} {hs : List ExceptHandler} {ks : List Cl}
      (hN : X.N.Nodup) (hi : X.N[i]? = some n) (hl : X.env.kindOf n = some .local) (hc : Names X x c) (hsu : SuOk X b₀ su ts) (r : Mix X hs ks) : Mix X (.ExceptHandler (some (.Name x p)) (some n) (b₀ :: su) q :: hs) (⟨c, some i, ts⟩ :: ks)
/-- the exception is in flight here: what was known ahead of it -/
structure Fly (X : Cx) (a : Addr) (B : Heap) (sI s1 : Shared) (pins : List (Addr × Obj)) (σ : L2.St) (H : Hp) (cls : Value) (d : Option Addr) (h : Heap) : Prop where
  J : Inv X pins σ H sI
  nb : ∀ b o, sI.heap.get? b = some o → b ∉ frs X.stack → B.get? b = some o
  up : sI.heap.UpToSlots h
  na : H a = none
  os : s1.os = sI.os
  ag : AllBare s1.gens
  fl : HandSPX.FlyingZ B (X.env :: X.outer) a (Zc cls d) h
section
variable {X : Cx} {a : Addr} {B : Heap} {sI s1 : Shared} {pins : List (Addr × Obj)} {σ : L2.St} {H : Hp} {cls : Value} {d : Option Addr} {h : Heap}
theorem Fly.inv (F : Fly X a B sI s1 pins σ H cls d h) : Inv X pins σ H { s1 with heap := h } := F.J.landed F.nb F.fl.1 F.up F.os F.ag
theorem Fly.apart (F : Fly X a B sI s1 pins σ H cls d h) (hf : X.env.frame = some X.env.locals) (hs : X.stack = X.env :: X.outer) : a ≠ X.env.locals ∧ a ∉ X.fs := by
  obtain ⟨oe, vs, he, hz, hd⟩ := F.fl.there
  have key : ∀ e ∈ X.env :: X.outer, e.frame ≠ some a := fun e me q => by
    obtain ⟨_, o, ho, hn⟩ := F.fl.2.2.1.mem (List.mem_filterMap.mpr ⟨e, me, q⟩)
    rw [he] at ho
    cases ho
    exact hn _ hd
  exact ⟨fun z => key X.env List.mem_cons_self (by rw [hf, z]), fun m => by
    obtain ⟨e, me, q⟩ := List.mem_filterMap.mp m
    exact key e (List.mem_cons_of_mem _ me) q⟩
end
section
variable {X : Cx} {body : List Stmt} {h₀ : ExceptHandler} {hds : List ExceptHandler} {ks : List Cl} {pos : Pos} {tb : WX → TS} {Wout : WX}
/-- none of the clauses is right: it goes on -/
theorem fly_on {a : Addr} {B : Heap} {sI s1 : Shared} {pins : List (Addr × Obj)} {σ : L2.St} {H : Hp} {cls : Value} {d : Option Addr} {h : Heap} {Q : Flow → Shared → Prop} (hs : X.stack = X.env :: X.outer) (hf : X.env.frame = some X.env.locals) (tk : Takes X Wout)
    (F : Fly X a B sI s1 pins σ H cls d h) (w : Wout cls d σ H) : wpAny (model X.prog X.w) X.A (handleBy (.ref a) X.env []) Q X.xe { s1 with heap := h } := by
  apply wpAny_handleBy_nil
  have fl := F.fl
  obtain ⟨_, _, _, oe, vs, T, oT, tsl, he, hz, hd, h1, hr⟩ := fl
  have up1 : wpAny (model X.prog X.w) X.A (setFlight (.ref a) X.env.frame) (fun _ z => wpAny (model X.prog X.w) X.A (throw (.ref a) : Sem Flow) Q X.xe z) X.xe { s1 with heap := h } := by
    rw [hf]
    apply HandSPX.setFlight_upZ F.fl
    intro k hk uk
    apply wpAny_throw
    exact tk _ _ ⟨a, B, sI, pins, σ, H, cls, d, rfl, F.J, F.nb, F.up.trans uk, .inr (.inr (by rw [hs]; exact hk)), F.na, F.os, F.ag, w⟩
  unfold PySem.passOn
  apply wpAny_bind
  apply wpAny_field he hd h1
  rw [if_neg (show ¬ ((Value.ref T == Value.none) = true) from by simp)]
  first
    | exact wpAny_bind (wpAny_pure (wpAny_bind up1))
    | exact wpAny_bind up1
theorem fly_mix {a : Addr} {B : Heap} {sI s1 : Shared} {pins : List (Addr × Obj)} {σ : L2.St} {H : Hp} {cls : Value} {d : Option Addr} {h : Heap} {D : Ends} (hs : X.stack = X.env :: X.outer) (hf : X.env.frame = some X.env.locals) (tk : Takes X Wout) (ok : X.Ok)
    (F : Fly X a B sI s1 pins σ H cls d h) : ∀ {hds : List ExceptHandler} {ks : List Cl}, Mix X hds ks → wMix X.K Wout D ks cls d σ H → wpAny (model X.prog X.w) X.A (handleBy (.ref a) X.env hds) (SP X pins D) X.xe { s1 with heap := h } := by
  intro hds ks M
  obtain ⟨oe, vs, he, hz, hd⟩ := F.fl.there
  obtain ⟨nL, nF⟩ := F.apart hf hs
  have S := F.inv.suite he hd F.na nL nF
  have LT : PySem.W.Looks (model X.prog X.w) h (typeOf (.ref a)) cls := fun A Q E s k q => wpAny_typeOf_ref (k _ _ he) (by rw [hz.1]; exact q)
  have named : ∀ {x : Str} {c : Value} {np : Pos}, Names X x c → ∀ {Q E : Value → Shared → Prop}, Q c { s1 with heap := h } → wpAny (model X.prog X.w) (X.A.mark (some (.ref a))) (eval (.Name x np) X.env) Q E { s1 with heap := h } := by
    intro x c np hc Q E q
    rcases hc with ⟨g, db, g2 | ⟨g2, g3, g4⟩⟩
    · exact ld_glob (X := X.suite a ((a, oe) :: (X.pn ++ pins))) S g g2 q db
    · exact ld_blt (X := X.suite a ((a, oe) :: (X.pn ++ pins))) S g g2 g3 q g4 db
  induction M with
  | nil => exact fun w => fly_on hs hf tk F w
  | @plain x c ts b₀ su p q hs' ks' hc hsu r ih =>
    rintro ⟨b, hb, yes, no⟩
    apply wpAny_handleBy_cons (codeAny_handlers_test ?_) (by intro z; cases z)
    apply named hc
    apply (PySem.W.exm_one (M := model X.prog X.w) F.inv.kIn LT hb).here
    cases b
    · exact ih (no rfl)
    · apply codeAny_handlers_suite
      apply HandSPX.lands_againZ F.fl
      intro k fk uk
      have F' : Fly X a B sI s1 pins σ H cls d k := ⟨F.J, F.nb, F.up.trans uk, F.na, F.os, F.ag, fk⟩
      obtain ⟨oe', vs', he', hz', hd'⟩ := fk.there
      have S' := F'.inv.suite he' hd' F.na nL nF
      apply wpAny_mono ((hsu a oe' cls d (X.pn ++ pins) hz' ⟨_, hd'⟩).run [] _ _ H _ S' (yes rfl a F.na)) ?_ (fun _ _ z => z.elim)
      intro f t ht
      cases f <;> obtain ⟨σ6, ht⟩ := ht
      case ret => obtain ⟨σ7, H7, S7, r7, q7⟩ := ht; exact ⟨_, _, _, S7.unsuite ok, r7, q7⟩
      all_goals (obtain ⟨H6, S6, q6⟩ := ht; exact ⟨_, _, S6.unsuite ok, q6⟩)
  | @named x n i c ts b₀ su p q hs' ks' hN hi hl hc hsu r ih =>
    rintro ⟨b, hb, yes, no⟩
    apply wpAny_handleBy_cons (codeAny_handlers_test ?_) (by intro z; cases z)
    apply named hc
    apply (PySem.W.exm_one (M := model X.prog X.w) F.inv.kIn LT hb).here
    cases b
    · exact ih (no rfl)
    · apply codeAny_handlers_suite_as
      apply HandSPX.lands_againZ F.fl
      intro k fk uk
      have F' : Fly X a B sI s1 pins σ H cls d k := ⟨F.J, F.nb, F.up.trans uk, F.na, F.os, F.ag, fk⟩
      obtain ⟨oe', vs', he', hz', hd'⟩ := fk.there
      have S' := F'.inv.suite he' hd' F.na nL nF
      have hx : Loc X.env.scope n := .inl hl
      refine store_ok (X := X.suite a ((a, oe') :: (X.pn ++ pins))) (v := .ref a) S' hN hi hx rfl (fun t2 T2 => ?_) (.inr hl)
      apply wpAny_mono ((hsu a oe' cls d (X.pn ++ pins) hz' ⟨_, hd'⟩).run [] t2 _ H _ T2 (yes rfl a F.na)) ?_ (fun _ _ z => z.elim)
      intro f t ht
      have leave : ∀ {σ6 : L2.St} {H6 : Hp} {Q : Shared → Prop}, Inv (X.suite a ((a, oe') :: (X.pn ++ pins))) [] σ6 H6 t → (∀ t7, Inv X pins (σ6.set i none) H6 t7 → Q t7) →
          wpAny (model X.prog X.w) X.A (do bindName X.env n .none; unbindBehindTheSuite X.env n q) (fun _ t7 => Q t7) X.xe t := fun S6 hq => gone_ok (S6.unsuite ok) hN hi hl hq
      cases f <;> obtain ⟨σ6, ht⟩ := ht
      case ret => obtain ⟨σ7, H7, S7, r7, q7⟩ := ht; exact leave S7 fun t7 J7 => ⟨_, _, _, J7, r7, q7⟩
      all_goals (obtain ⟨H6, S6, q6⟩ := ht; exact leave S6 fun t7 J7 => ⟨_, _, J7, q6⟩)
def tTryM (K : PySem.W.Frag) (ks : List Cl) (Wout : WX) (tb : WX → TS) : TS := fun D σ H => tb (wMix K Wout D ks) D σ H
theorem ps_tryM {K : PySem.W.Frag} (hs : X.stack = X.env :: X.outer) (hf : X.env.frame = some X.env.locals) (tk : Takes X Wout)
    (hb : ∀ (W : WX) (pn : List (Addr × Obj)) (xe : Value → Shared → Prop), Takes (X.tr pn xe) W → PassesOwn (model X.prog X.w) X.A X.env xe → PSs (X.tr pn xe) body (tb W))
    (M : Mix X (h₀ :: hds) ks) (hK : X.K = K := by rfl) : PS X (.Try body (h₀ :: hds) [] [] pos) (tTryM K ks Wout tb) := by
  subst hK
  refine ⟨fun pins s σ H D I h => ?_⟩
  have ok := I.ok
  have hfr : X.A.frames = some (X.env :: X.outer) := by rw [ok.frames, hs]
  apply wpAny_Try_except
  refine wpAny_mono ((hb (wMix X.K Wout D ks) (X.pn ++ pins) _ ?_ PassesOwn.looking).run [] s σ H D (I.toTry _) h) ?_ (fun e t he => he)
  · intro u t xx
    obtain ⟨a, B, sI, pins', σ', H', cls, d, rfl, J', nb, up, sky, na, os, ag, w⟩ := xx
    rw [show (X.tr (X.pn ++ pins) _).stack = X.env :: X.outer from hs] at sky
    refine Sky.land Zc.steady hfr hf sky fun k fk uk => ?_
    exact fly_mix hs hf tk ok (D := D) ⟨J'.ofTry ok, nb, up.trans uk, na, os, ag, fk⟩ M w
  · intro f t ht
    cases f
    case ret => obtain ⟨v, σ', H', J', r, q⟩ := ht; exact ⟨v, σ', H', J'.ofTry ok, r, q⟩
    case next => obtain ⟨σ', H', J', q⟩ := ht; exact wpAny_execs_nil ⟨σ', H', J'.ofTry ok, q⟩
    all_goals (obtain ⟨σ', H', J', q⟩ := ht; exact ⟨σ', H', J'.ofTry ok, q⟩)
end

/-! ## isinstance of the exception, several classes -/
def rIsET (K : PySem.W.Frag) (D a : Addr) : List V → Hp → VK → Prop := fun xs H Q => ∃ (tp : Addr) (cs : List V) (us : List Value) (b : Bool), xs = [.ref a, .ref tp] ∧ H tp = some (.tup cs) ∧ Paired ClsV cs us ∧ PySem.W.kitAny K (.ref D) us = some b ∧ Q (.bl b) H
theorem call_isET {X : Cx} {a D : Addr} {oe : Obj} {pn : List (Addr × Obj)} (C : ExcC X.K D) (hz : Zc (.ref D) none oe) (hf : ∃ vs, oe.data = .fields vs) : CallR (X.suite a ((a, oe) :: pn)) (.builtin "isinstance") (rIsET X.K D a) := by
  rintro pins s σ H _ us Q I r ⟨tp, cs, ws, b, rfl, hT, k, e, q⟩
  obtain ⟨u1, u2, rfl, r1, r2⟩ := r.two
  cases (show u1 = Value.ref a from r1)
  cases (show u2 = Value.ref tp from r2)
  have hget := (I.pin (a, oe) (List.mem_append.mpr (.inl List.mem_cons_self))).1
  obtain ⟨vs, hv⟩ := hf
  obtain ⟨h1, h2⟩ := hz
  obtain ⟨c0, d0, dt0, sl0⟩ := oe
  dsimp only at h1 h2 hv
  subst h1 h2 hv
  have J : PySem.W.InstAt s.heap a ⟨.ref D, none, .fields vs, sl0⟩ D none := ⟨hget, rfl, rfl, trivial⟩
  obtain ⟨_, its, rv, o, g1, g2, n, g3⟩ := (show ObjOk X.prog X.w H s.heap tp (.tup cs) from I.hok tp _ hT)
  have e3 := ClsV.all k rv
  subst e3
  obtain ⟨oc, od, dt, sl⟩ := o
  dsimp only at g2 g3
  subst g2 g3
  exact PySem.W.kia_tup (PySem.W.handS_kitx_exc C.hg C.hk C.hs C.hd C.ha C.hn C.ht C.hm) I.kIn J g1 e (fun z => nomatch z) fun tk => ⟨.bl b, H, I.kept (t' := tk) fun _ _ z => z, rfl, q⟩
def tIsET (K : PySem.W.Frag) (a : Addr) (cls : Value) (d : Option Addr) (targs : TA) : TE := fun σ H Q => ∃ Dc, cls = .ref Dc ∧ d = none ∧ ExcC K Dc ∧ tCB (rIsET K Dc a) targs σ H Q
section
variable {K : PySem.W.Frag} {σ : L2.St} {B H : Hp} {Q : VK} {D' : Ends} {Wout : WX} {k : Cl} {r : List Cl} {mg : Str → Option Value} {nm : Str}
theorem pe_isET {X : Cx} {e : Expr} {a : Addr} {cls : Value} {d : Option Addr} {targs : TA} (hK : X.K = K) (h : ∀ Dc, cls = .ref Dc → d = none → ExcC K Dc → PE X e (tCB (rIsET K Dc a) targs)) : PE X e (tIsET K a cls d targs) :=
  ⟨fun pins s σ H Q I q => by
    obtain ⟨Dc, e1, e2, ec, q⟩ := q
    exact (h Dc e1 e2 ec).run pins s σ H Q I q⟩
theorem h_isET {a C : Addr} {targs : TA} (T : ExcT K mg nm C) (h : targs σ H fun vs H1 => rIsET K C a vs H1 Q) : tIsET K a (.ref C) none targs σ H Q := ⟨C, rfl, rfl, T.ec, h⟩
theorem kitA_nil {t : Value} : PySem.W.kitAny K t [] = some false := rfl
theorem kitA_f {t c : Value} {r : List Value} {b : Bool} (h : PySem.W.kitOne K t c = some false) (hr : PySem.W.kitAny K t r = some b) : PySem.W.kitAny K t (c :: r) = some b := by
  unfold PySem.W.kitAny
  rw [h]
  exact hr
theorem kitA_t {t c : Value} {r : List Value} (h : PySem.W.kitOne K t c = some true) : PySem.W.kitAny K t (c :: r) = some true := by
  unfold PySem.W.kitAny
  rw [h]
/-- a tuple of classes that was just laid -/
theorem h_clsTup {xs : List V} (w : Ex B H) (hn : xs.length ≤ sizeLine) (h : ∀ p, Stp [] B H B (upd H p (.tup xs)) → Q (.ref p) (upd H p (.tup xs))) : NewT xs H Q := ⟨hn, fun p hp => h p (Stp.newM w hp)⟩
theorem h_isETR {a C tp : Addr} {xs : List V} {us : List Value} {b : Bool} (hp : Paired ClsV xs us) (e : PySem.W.kitAny K (.ref C) us = some b) (q : Q (.bl b) (upd H tp (.tup xs))) : rIsET K C a [.ref a, .ref tp] (upd H tp (.tup xs)) Q := ⟨tp, xs, us, b, rfl, upd_same, hp, e, q⟩
/-- the clause meets the error -/
theorem h_mixHitA {C S' : Addr} {i : Nat} {ts : Addr → Value → Option Addr → TS} (T : ExcT K mg nm S') (hs : PySem.W.subIn K (.ref C) (.ref S') = some true)
    (h : ∀ a, H a = none → ts a (.ref C) none ⟨fun σ H => D'.nx (σ.set i none) H, D'.rt, fun σ H => D'.bk (σ.set i none) H, fun σ H => D'.ct (σ.set i none) H⟩ (σ.set i (some (.ref a))) H) : wMix K Wout D' (⟨.ref S', some i, ts⟩ :: r) (.ref C) none σ H :=
  ⟨true, T.exm hs, fun _ a ha => h a ha, fun q => nomatch q⟩
theorem h_mixHitO {C S' : Addr} {ts : Addr → Value → Option Addr → TS} (T : ExcT K mg nm S') (hs : PySem.W.subIn K (.ref C) (.ref S') = some true)
    (h : ∀ a, H a = none → ts a (.ref C) none D' σ H) : wMix K Wout D' (⟨.ref S', none, ts⟩ :: r) (.ref C) none σ H :=
  ⟨true, T.exm hs, fun _ a ha => h a ha, fun q => nomatch q⟩
theorem h_mixSkip {C S' : Addr} (hc : k.c = .ref S') (T : ExcT K mg nm S') (hs : PySem.W.subIn K (.ref C) (.ref S') = some false) (h : wMix K Wout D' r (.ref C) none σ H) : wMix K Wout D' (k :: r) (.ref C) none σ H :=
  ⟨false, by rw [hc]; exact T.exm hs, (fun q => nomatch q), fun _ => h⟩
theorem h_tryM {ks : List Cl} {tb : WX → TS} (h : tb (wMix K Wout D' ks) D' σ H) : tTryM K ks Wout tb D' σ H := h
end

/-! ## a list of lists of our own -/
def Raw (B H : Hp) (p : Addr) (xs : List V) : Prop := B p = none ∧ H p = some (.lst xs)
section
variable {K : PySem.W.Frag} {B B' H H' : Hp} {W : List Addr} {p q : Addr} {xs : List V} {Q : VK} {d e : D} {v u : V}
theorem Raw.step (m : Raw B H p xs) (s : Stp W B H B' H') (h : p ∉ W) : Raw B' H' p xs := ⟨s.nw p _ m.1 m.2, s.fr p _ h m.2⟩
theorem Raw.ne (m : Raw B H p xs) (h : H q = none) : p ≠ q := ne_of_none m.2 h
theorem Raw.kp {r : Addr} (m : Raw B H q xs) (_ : Ex B B') (k : ∀ q, q ≠ r → B q = none → B' q = none) (n : q ≠ r) : Raw B' H q xs := ⟨k q n m.1, m.2⟩
theorem Raw.sq (m : Raw B H p xs) : SqL K H p xs := SqL.of m.2
theorem h_newRaw (w : Ex B H) (hn : xs.length ≤ sizeLine) (h : ∀ p H', H p = none → Stp [] B H B H' → Raw B H' p xs → Q (.ref p) H') : NewL xs H Q := ⟨hn, fun p hp => h p _ hp (Stp.newM w hp) ⟨w.none hp, upd_same⟩⟩
theorem Cmp.pair (s : SqL K H p [v, u]) (h : Cmp K H v d) (h' : Cmp K H u e) : Cmp K H (.ref p) (.lst [d, e]) := fun f => by
  have f' : (flatD d && (flatD e && true)) = true := f
  simp only [Bool.and_true, Bool.and_eq_true] at f'
  exact .lst s (.cons (h f'.1) (.cons (h' f'.2) .nil))
end
end Y

/-! # a local name that holds a def -/
namespace Y
open PySem PySem.Spec PyProof.Rows
open L2
section
variable {X : Cx} {CX : CXT} {k : Nat} {f : Addr} {fd : FuncData} {ps : List Str} {sp : Sp} {dvs : List V} {ds : List Value} {E : L2.St → XK} {x : Str} {p pos : Pos} {e : Expr} {es : List Expr} {t tl : TA}
def tCallLS (i : Nat) (f : Addr) (sp : Sp) (dvs : List V) (E : L2.St → XK) (t : TA) : TE := fun σ H Q => σ[i]? = some (some (.ref f)) ∧ t σ H fun vs H1 => sp (vs ++ dvs) H1 Q (E σ)
theorem atOf {E : XK} (h : Passes CX X E) : ∀ σ, PassesAt CX X σ ((fun _ : L2.St => E) σ) := fun σ pins H s e s' I c => h pins σ H s e s' I c
theorem pe_callLS (i : Nat) (F : FnOk X.prog X.w X.K X.mg X.base CX k f fd ps sp) (hr : Room k X.A) (hk : PySem.W.keepIn X.K (.ref f) = true) (hb : L2.Binds X.K fd ps ds) (hd : Vals dvs ds) (hx : ∀ σ, PassesAt CX X σ (E σ)) (ha : PA X (e :: es) t)
    (hN : X.N[i]? = some x := by rfl) (hv : Vis X.env.scope x := by first | exact Or.inl rfl | exact Or.inr (Or.inl rfl) | exact Or.inr (Or.inr rfl))
    (hdb : (x == ("__debug__" : Str)) = false := by decide) (hcd : (x == ("__classdict__" : Str)) = false := by decide)
    (he : starEach (e :: es) X.env = (false, eval e X.env) :: starEach es X.env := by rfl) (hpl : (backTo pos (starEach es X.env)).any (·.1) = false := by rfl) : PE X (.Call (.Name x p) (e :: es) [] pos) (tCallLS i f sp dvs E t) := by
  refine ⟨fun pins s σ H Q I h => ?_⟩
  obtain ⟨hs, ht⟩ := h
  refine wpAny_Call_Name_kw (thn ((pe_var (pos := p) hN hv hdb hcd).run pins s σ H (fun v H1 => v = .ref f ∧ H1 = H) I ⟨.ref f, hs, rfl, rfl⟩) fun u s1 ⟨v, H1, I1, r1, q1⟩ => ?_)
  obtain ⟨rfl, rfl⟩ := q1
  cases r1
  refine PySem.W.callWith_K (h₀ := X.base) I.ok.mod.kin hk (thn (ha.run pos pins s1 σ _ _ I1 ht) fun us s2 ⟨vs, H2, I2, r, q⟩ => ⟨I2.kIn, ?_⟩) he hpl
  exact run_fnSD F hr hb hd (hx σ) I2 r q
theorem h_callLS {i : Nat} {σ : L2.St} {H : Hp} {Q : VK} (hs : σ[i]? = some (some (.ref f))) (h : tl σ H fun vs H1 => sp (vs ++ dvs) H1 Q (E σ)) : tCallLS i f sp dvs E tl σ H Q := ⟨hs, h⟩
end
end Y

set_option Elab.async false
set_option linter.all false
set_option maxRecDepth 100000
set_option maxHeartbeats 4000000
namespace A
open PySem PySem.Spec PyProof.Rows L2 Y
open Y.Enc (enc)
abbrev top (i : Nat) : Stmt := PySem.Challenge.pw_lanescroll_k33_stuffed_and_unstuffed.main.body.getD i (.Pass ⟨0, 0, 0, 0⟩)
def isWhole (d : D) (lo hi : Int) : Bool := match d with
  | .int i => decide (lo ≤ i) && decide (i ≤ hi)
  | _ => false
def m_is_whole (d : D) (lo hi : Int) : Res Bool := .ok (isWhole d lo hi)
/-! ### is_whole -/
def sp_is_whole (K : PySem.W.Frag) : Sp := fun vs H Q _ => ∃ (B : Hp) (v_thing : V) (a_thing : D) (a_low : Int) (a_high : Int), Ex B H ∧ vs = [v_thing, .int a_low, .int a_high] ∧ Rep K B v_thing (enc a_thing) ∧ Post (m_is_whole a_thing a_low a_high) (fun r => Ret K [] B H (enc r) Q) (fun _ => False)
abbrev s_is_whole : Stmt := top 7
theorem sc_is_whole : FnScope ["thing", "low", "high"] ["thing", "low", "high"] (defScope s_is_whole) := ⟨rfl, rfl, rfl, by decide +kernel, rfl, by decide +kernel, by decide +kernel⟩
/-! ### is_bytes -/
def m_is_bytes (a_thing : D) : Res Bool :=
  (if (isA "list" a_thing) = true then (asL a_thing).bind fun l1 => (compR (l1) (() : Unit) (fun x11 (a15 : Unit) => (m_is_whole x11 0 255).bind fun x27 => .ok (some x27, ()))).bind <| un2 fun acc14 a15 => .ok (acc14.all id) else .ok false)
def sp_is_bytes (K : PySem.W.Frag) : Sp := fun vs H Q _ => ∃ (B : Hp) (v_thing : V) (a_thing : D), Ex B H ∧ vs = [v_thing] ∧ Rep K B v_thing (enc a_thing) ∧ Post (m_is_bytes a_thing) (fun r => Ret K [] B H (enc r) Q) (fun _ => False)
abbrev s_is_bytes : Stmt := top 8
theorem sc_is_bytes : FnScope ["thing", "byte"] ["thing"] (defScope s_is_bytes) := ⟨rfl, rfl, rfl, by decide +kernel, rfl, by decide +kernel, by decide +kernel⟩
/-! ### sure_row -/
def m_sure_row (a_row : D) : Res Unit :=
  ((m_is_bytes a_row).noErr).bind fun x1 => (if x1 = true then .ok () else .err ⟨"NoBytes", []⟩)
def sp_sure_row (K : PySem.W.Frag) (mg : Str → Option Value) : Sp := fun vs H Q E => ∃ (B : Hp) (v_row : V) (a_row : D), Ex B H ∧ vs = [v_row] ∧ Rep K B v_row (enc a_row) ∧ Post (m_sure_row a_row) (fun r => Ret K [] B H (enc r) Q) (fun e => Rai mg [] B H e E)
abbrev s_sure_row : Stmt := top 10
theorem sc_sure_row : FnScope ["row"] ["row"] (defScope s_sure_row) := ⟨rfl, rfl, rfl, by decide +kernel, rfl, by decide +kernel, by decide +kernel⟩
/-! ### noughts_behind -/
def m_noughts_behind (a_noughts : Int) (a_byte : Int) : Res Int :=
  ((if (decide (a_byte = 0)) = true then .ok (a_noughts + 1) else .ok 0) : Res (Int)).bind fun a4 => .ok a4
def sp_noughts_behind (K : PySem.W.Frag) : Sp := fun vs H Q _ => ∃ (B : Hp) (a_noughts : Int) (a_byte : Int), Ex B H ∧ vs = [.int a_noughts, .int a_byte] ∧ Post (m_noughts_behind a_noughts a_byte) (fun r => Ret K [] B H (enc r) Q) (fun _ => False)
abbrev s_noughts_behind : Stmt := top 11
theorem sc_noughts_behind : FnScope ["noughts", "byte"] ["noughts", "byte"] (defScope s_noughts_behind) := ⟨rfl, rfl, rfl, by decide +kernel, rfl, by decide +kernel, by decide +kernel⟩
/-! ### stuffed -/
def m_stuffed (a_row : D) : Res (List Int) :=
  (m_sure_row a_row).bind fun x1 => (asL a_row).bind fun l14 => (forR (l14) ((0, ([] : List Int)) : Int × (List Int)) (fun x29 (a28 : Int × (List Int)) => (asI x29).bind fun i38 => guardR (a28.2.length < 1000000) <| ((m_noughts_behind a28.1 i38).noErr).bind fun x41 => (if (decide (x41 = 2)) = true then guardR ((a28.2 ++ [i38]).length < 1000000) <| .ok (.nx (0, ((a28.2 ++ [i38]) ++ [2]))) else .ok (.nx (x41, (a28.2 ++ [i38])))))).bind (afterR fun a49 => .ok a49.2)
def sp_stuffed (K : PySem.W.Frag) (mg : Str → Option Value) : Sp := fun vs H Q E => ∃ (B : Hp) (v_row : V) (a_row : D), Ex B H ∧ vs = [v_row] ∧ Rep K B v_row (enc a_row) ∧ Post (m_stuffed a_row) (fun r => Ret K [] B H (enc r) Q) (fun e => Rai mg [] B H e E)
abbrev s_stuffed : Stmt := top 12
theorem sc_stuffed : FnScope ["row", "found", "noughts", "byte"] ["row"] (defScope s_stuffed) := ⟨rfl, rfl, rfl, by decide +kernel, rfl, by decide +kernel, by decide +kernel⟩
/-! ### unstuffed -/
def m_unstuffed (a_row : D) : Res (List Int) :=
  (m_sure_row a_row).bind fun x1 => (asL a_row).bind fun l14 => (forR (l14) ((0, ([] : List Int)) : Int × (List Int)) (fun x29 (a28 : Int × (List Int)) => (if (decide (a28.1 < 2)) = true then (asI x29).bind fun i38 => guardR (a28.2.length < 1000000) <| ((m_noughts_behind a28.1 i38).noErr).bind fun x41 => .ok (.nx (x41, (a28.2 ++ [i38]))) else guardR (okEq x29 (enc (2 : Int))) <| (if (eqD x29 (enc (2 : Int))) = true then .ok (.nx (0, a28.2)) else .err ⟨"NoStuffing", []⟩)))).bind (afterR fun a47 => (if (decide (a47.1 = 2)) = true then .err ⟨"NoStuffing", []⟩ else .ok a47.2))
def sp_unstuffed (K : PySem.W.Frag) (mg : Str → Option Value) : Sp := fun vs H Q E => ∃ (B : Hp) (v_row : V) (a_row : D), Ex B H ∧ vs = [v_row] ∧ Rep K B v_row (enc a_row) ∧ Post (m_unstuffed a_row) (fun r => Ret K [] B H (enc r) Q) (fun e => Rai mg [] B H e E)
abbrev s_unstuffed : Stmt := top 13
theorem sc_unstuffed : FnScope ["row", "found", "noughts", "byte"] ["row"] (defScope s_unstuffed) := ⟨rfl, rfl, rfl, by decide +kernel, rfl, by decide +kernel, by decide +kernel⟩
/-! ### _law_digit -/
def l_digit (a_state : (List Int)) (a_base : Int) : Res (Int × (List Int)) :=
  ((if (decide ((a_state.length : Int) = 1)) = true then (ixR a_state 0).bind fun x12 => guardR (a_state.length + ([(x12 % 2147483647), 0] : List Int).length ≤ 1000000) <| .ok (a_state ++ ([(x12 % 2147483647), 0] : List Int)) else .ok a_state) : Res ((List Int))).bind fun a26 => (ixR a26 0).bind fun x34 => (if (decide (a_base ≤ x34)) = true then (ixR a26 0).bind fun x42 => guardR (0 < a_base) <| lt ((x42 % a_base) : Int) fun x46 => (ixR a26 0).bind fun x51 => guardR (CDivW x51 a_base) <| (setR a26 0 (x51 / a_base)).bind fun x55 => .ok (x46, x55) else (ixR a26 2).bind fun x64 => (setR a26 2 (x64 + 1)).bind fun x68 => (ixR x68 1).bind fun x77 => (ixR x68 2).bind fun x85 => lt (((((x77 + (7919 * x85)) + 1) * 48271) % 2147483647) : Int) fun x89 => guardR (CMulW x89 ((x89 / 1009) + 69621)) <| lt (((x89 * ((x89 / 1009) + 69621)) % 2147483647) : Int) fun x90 => guardR (CMulW x90 ((x90 / 2003) + 40692)) <| guardR (0 < a_base) <| .ok ((((x90 * ((x90 / 2003) + 40692)) % 2147483399) % a_base), x68))
def sp__law_digit (K : PySem.W.Frag) : Sp := fun vs H Q _ => ∃ (B : Hp) (p_state : Addr) (a_state : (List Int)) (a_base : Int), Ex B H ∧ vs = [.ref p_state, .int a_base] ∧ Mu K B H p_state (a_state.map enc) ∧ Post (l_digit a_state a_base) (fun r => RetM K p_state B H (enc r.1) (r.2.map enc) Q) (fun _ => False)
abbrev s__law_digit : Stmt := top 15
theorem sc__law_digit : FnScope ["_law_state", "_law_base", "_law_found", "_law_number"] ["_law_state", "_law_base"] (defScope s__law_digit) := ⟨rfl, rfl, rfl, by decide +kernel, rfl, by decide +kernel, by decide +kernel⟩
/-! ### _law_odd_row -/
def l_odd_row (a_state : (List Int)) (a_row : (List Int)) : Res (D × (List Int)) :=
  (l_digit a_state 4).bind fun x1 => (if (decide (x1.1 = 0)) = true then (l_digit x1.2 7).bind fun x26 => (ixR ([(enc ()), (.tup (a_row.map enc) : D), (enc ("" : Str)), (enc (0 : Int)), (.dic [] : D), (enc ("ab" : Str)), (enc (255 : Int))] : List D) x26.1).bind fun x36 => .ok (x36, x26.2) else (l_digit x1.2 10).bind fun x55 => (ixR ([(enc (256 : Int)), (enc ((-1) : Int)), (enc (decide (1 = 1))), (enc ()), (enc ("0" : Str)), (enc ([0] : List Int)), (enc (⟨0⟩ : (Tp1 Int))), (enc (1000000000 : Int)), (enc ((-256) : Int)), (enc (decide (1 = 2)))] : List D) x55.1).bind fun x65 => (l_digit x55.2 ((a_row.length : Int) + 1)).bind fun x73 => guardR (((cutL a_row none (some x73.1)).map enc : List D).length + ([x65] : List D).length ≤ 1000000) <| guardR ((((cutL a_row none (some x73.1)).map enc : List D) ++ ([x65] : List D)).length + ((cutL a_row (some x73.1) none).map enc : List D).length ≤ 1000000) <| .ok ((enc ((((cutL a_row none (some x73.1)).map enc : List D) ++ ([x65] : List D)) ++ ((cutL a_row (some x73.1) none).map enc : List D))), x73.2))
def sp__law_odd_row (K : PySem.W.Frag) : Sp := fun vs H Q _ => ∃ (B : Hp) (p_state : Addr) (a_state : (List Int)) (v_row : V) (a_row : (List Int)), Ex B H ∧ vs = [.ref p_state, v_row] ∧ Mu K B H p_state (a_state.map enc) ∧ Rep K B v_row (enc a_row) ∧ Post (l_odd_row a_state a_row) (fun r => RetM K p_state B H (enc r.1) (r.2.map enc) Q) (fun _ => False)
abbrev s__law_odd_row : Stmt := top 16
theorem sc__law_odd_row : FnScope ["_law_state", "_law_row", "_law_odd", "_law_at"] ["_law_state", "_law_row"] (defScope s__law_odd_row) := ⟨rfl, rfl, rfl, by decide +kernel, rfl, by decide +kernel, by decide +kernel⟩
/-! ### _law_bytes -/
def l_bytes (a_state : (List Int)) (a_many : Int) : Res ((List Int) × (List Int)) :=
  (l_digit a_state 3).bind fun x1 => guardR (-(2 ^ 62) ≤ (a_many : Int) ∧ (a_many : Int) < 2 ^ 62) <| (forR (rngI 0 a_many) ((x1.2, ([] : List Int)) : (List Int) × (List Int)) (fun x23 (a22 : (List Int) × (List Int)) => (l_digit a22.1 256).bind fun x31 => (ixR ([0, 0, 1, 2, 255, x31.1] : List Int) (x31.1 % 6)).bind fun x46 => (ixR ([x31.1, (x31.1 % 3), x46] : List Int) x1.1).bind fun x59 => guardR (a22.2.length < 1000000) <| .ok (.nx (x31.2, (a22.2 ++ [x59]))))).bind (afterR fun a65 => .ok (a65.2, a65.1))
def sp__law_bytes (K : PySem.W.Frag) : Sp := fun vs H Q _ => ∃ (B : Hp) (p_state : Addr) (a_state : (List Int)) (a_many : Int), Ex B H ∧ vs = [.ref p_state, .int a_many] ∧ Mu K B H p_state (a_state.map enc) ∧ Post (l_bytes a_state a_many) (fun r => RetM K p_state B H (enc r.1) (r.2.map enc) Q) (fun _ => False)
abbrev s__law_bytes : Stmt := top 17
theorem sc__law_bytes : FnScope ["_law_state", "_law_many", "_law_plain", "_law_found", "_law_k", "_law_byte"] ["_law_state", "_law_many"] (defScope s__law_bytes) := ⟨rfl, rfl, rfl, by decide +kernel, rfl, by decide +kernel, by decide +kernel⟩
/-! ### _law_stuffed -/
def l_stuffed (a_row : (List Int)) : Res (List Int) :=
  (forR (a_row) ((0, ([] : List Int)) : Int × (List Int)) (fun x19 (a18 : Int × (List Int)) => guardR (a18.2.length < 1000000) <| guardR (CMulW (a18.1 + 1) (b2z (decide (x19 = 0)))) <| lt (((a18.1 + 1) * (b2z (decide (x19 = 0)))) : Int) fun x28 => (if (decide (x28 = 2)) = true then guardR ((a18.2 ++ [x19]).length < 1000000) <| .ok (.nx (0, ((a18.2 ++ [x19]) ++ [2]))) else .ok (.nx (x28, (a18.2 ++ [x19])))))).bind (afterR fun a31 => .ok a31.2)
def sp__law_stuffed (K : PySem.W.Frag) : Sp := fun vs H Q _ => ∃ (B : Hp) (v_row : V) (a_row : (List Int)), Ex B H ∧ vs = [v_row] ∧ Rep K B v_row (enc a_row) ∧ Post (l_stuffed a_row) (fun r => Ret K [] B H (enc r) Q) (fun _ => False)
abbrev s__law_stuffed : Stmt := top 18
theorem sc__law_stuffed : FnScope ["_law_row", "_law_found", "_law_noughts", "_law_byte"] ["_law_row"] (defScope s__law_stuffed) := ⟨rfl, rfl, rfl, by decide +kernel, rfl, by decide +kernel, by decide +kernel⟩
/-! ### _law_unstuffed -/
def l_unstuffed (a_row : (List Int)) : Res (Option (List Int)) :=
  (whileR (a_row.length + 1) ((([] : List Int), 0) : (List Int) × Int) (fun (a16 : (List Int) × Int) => (if (decide (a16.2 < (a_row.length : Int))) = true then guardR (okEq (enc (cutL a_row (some a16.2) (some (a16.2 + 2)))) (enc ([0, 0] : List Int))) <| (if (eqD (enc (cutL a_row (some a16.2) (some (a16.2 + 2)))) (enc ([0, 0] : List Int))) = true then guardR (okEq (enc (cutL a_row (some (a16.2 + 2)) (some (a16.2 + 3)))) (enc ([2] : List Int))) <| (if (!(eqD (enc (cutL a_row (some (a16.2 + 2)) (some (a16.2 + 3)))) (enc ([2] : List Int)))) = true then .ok (.rt none) else guardR (a16.1.length + ([0, 0] : List Int).length ≤ 1000000) <| lt ((a16.2 + 3) : Int) fun x77 => .ok (.nx ((a16.1 ++ ([0, 0] : List Int)), x77))) else (ixR a_row a16.2).bind fun x82 => guardR (a16.1.length < 1000000) <| lt ((a16.2 + 1) : Int) fun x88 => .ok (.nx ((a16.1 ++ [x82]), x88))) else .ok (.bk (a16.1, a16.2))))).bind (afterR fun a89 => .ok (some a89.1))
def sp__law_unstuffed (K : PySem.W.Frag) : Sp := fun vs H Q _ => ∃ (B : Hp) (v_row : V) (a_row : (List Int)), Ex B H ∧ vs = [v_row] ∧ Rep K B v_row (enc a_row) ∧ Post (l_unstuffed a_row) (fun r => Ret K [] B H (enc r) Q) (fun _ => False)
abbrev s__law_unstuffed : Stmt := top 19
theorem sc__law_unstuffed : FnScope ["_law_row", "_law_found", "_law_at"] ["_law_row"] (defScope s__law_unstuffed) := ⟨rfl, rfl, rfl, by decide +kernel, rfl, by decide +kernel, by decide +kernel⟩
/-! ### _law_told__stuffed -/
def l_told__stuffed (a_row : D) : Res D :=
  (tryR ((m_stuffed a_row).bind fun x7 => .ok (.rt (enc (⟨("told" : Str), x7⟩ : (Tp2 Str (List Int))))) : Res (Fl (Unit) (D))) (fun ⟨ec, _⟩ => guardR (ec ∈ (["NoBytes"] : List Str)) <| .ok (.rt (enc (⟨("bytes" : Str), false⟩ : (Tp2 Str Bool)))))).bind (afterR fun a32 => .ok (enc ()))
def sp__law_told__stuffed (K : PySem.W.Frag) (f_stuffed : Addr) : Sp := fun vs H Q _ => ∃ (B : Hp) (v_row : V) (a_row : D), Ex B H ∧ vs = [.ref f_stuffed, v_row] ∧ Rep K B v_row (enc a_row) ∧ Post (l_told__stuffed a_row) (fun r => Ret K [] B H (enc r) Q) (fun _ => False)
abbrev s__law_told__stuffed : Stmt := top 20
theorem sc__law_told__stuffed : FnScope ["_law_ask", "_law_row", "e"] ["_law_ask", "_law_row"] (defScope s__law_told__stuffed) := ⟨rfl, rfl, rfl, by decide +kernel, rfl, by decide +kernel, by decide +kernel⟩
/-! ### _law_told__unstuffed -/
def l_told__unstuffed (a_row : D) : Res D :=
  (tryR ((m_unstuffed a_row).bind fun x7 => .ok (.rt (enc (⟨("told" : Str), x7⟩ : (Tp2 Str (List Int))))) : Res (Fl (Unit) (D))) (fun ⟨ec, _⟩ => guardR (ec ∈ (["NoBytes", "NoStuffing"] : List Str)) <| (if decide (ec = "NoBytes") = true then .ok (.rt (enc (⟨("bytes" : Str), false⟩ : (Tp2 Str Bool)))) else .ok (.rt (enc (⟨("stuffing" : Str), false⟩ : (Tp2 Str Bool))))))).bind (afterR fun a41 => .ok (enc ()))
def sp__law_told__unstuffed (K : PySem.W.Frag) (f_unstuffed : Addr) : Sp := fun vs H Q _ => ∃ (B : Hp) (v_row : V) (a_row : D), Ex B H ∧ vs = [.ref f_unstuffed, v_row] ∧ Rep K B v_row (enc a_row) ∧ Post (l_told__unstuffed a_row) (fun r => Ret K [] B H (enc r) Q) (fun _ => False)
abbrev s__law_told__unstuffed : Stmt := top 20
theorem sc__law_told__unstuffed : FnScope ["_law_ask", "_law_row", "e"] ["_law_ask", "_law_row"] (defScope s__law_told__unstuffed) := ⟨rfl, rfl, rfl, by decide +kernel, rfl, by decide +kernel, by decide +kernel⟩
/-! ### _law_right -/
def l_right (a_row : (List Int)) : Res Bool :=
  (l_told__stuffed (enc a_row)).bind fun x10 => (l_stuffed a_row).bind fun x16 => guardR (okEq x10 (enc (⟨("told" : Str), x16⟩ : (Tp2 Str (List Int))))) <| (if (!(eqD x10 (enc (⟨("told" : Str), x16⟩ : (Tp2 Str (List Int)))))) = true then .ok false else guardR (okEq (enc a_row) (enc a_row)) <| (if (!(eqD (enc a_row) (enc a_row))) = true then .ok false else (l_unstuffed a_row).bind fun x27 => (l_told__unstuffed (enc a_row)).bind fun x33 => guardR (okEq (enc a_row) (enc a_row)) <| (if (!(eqD (enc a_row) (enc a_row))) = true then .ok false else (if (isNonD (enc x27)) = true then guardR (okEq x33 (enc (⟨("stuffing" : Str), false⟩ : (Tp2 Str Bool)))) <| .ok (eqD x33 (enc (⟨("stuffing" : Str), false⟩ : (Tp2 Str Bool)))) else guardR (okEq x33 (enc (⟨("told" : Str), x27⟩ : (Tp2 Str (Option (List Int)))))) <| (if (eqD x33 (enc (⟨("told" : Str), x27⟩ : (Tp2 Str (Option (List Int)))))) = true then (asT x33).bind fun l49 => (ixR l49 1).bind fun x56 => .ok (isA "list" x56) else .ok false)))))
def sp__law_right (K : PySem.W.Frag) : Sp := fun vs H Q _ => ∃ (B : Hp) (v_row : V) (a_row : (List Int)), Ex B H ∧ vs = [v_row] ∧ Rep K B v_row (enc a_row) ∧ Post (l_right a_row) (fun r => Ret K [] B H (enc r) Q) (fun _ => False)
abbrev s__law_right : Stmt := top 21
theorem sc__law_right : FnScope ["_law_row", "_law_handed", "_law_due", "_law_found"] ["_law_row"] (defScope s__law_right) := ⟨rfl, rfl, rfl, by decide +kernel, rfl, by decide +kernel, by decide +kernel⟩
/-! ### law -/
def m_law (a_script : (List Int)) : Res Bool :=
  guardR ((cutL a_script none (some 12)).length + ([0, 1] : List Int).length ≤ 1000000) <| (forR (((cutL a_script none (some 12)) ++ ([0, 1] : List Int))) (() : Unit) (fun x40 (a39 : Unit) => (l_digit ([x40] : List Int) 31).bind fun x62 => (l_bytes x62.2 x62.1).bind fun x68 => ((l_digit x68.2 5).bind fun x77 => (if (decide (x77.1 = 0)) = true then (l_digit x77.2 40).bind fun x88 => guardR (([0] : List Int).length * (Int.toNat x88.1) ≤ 1000000 ∧ -(2 ^ 62) ≤ (x88.1 : Int) ∧ (x88.1 : Int) < 2 ^ 62) <| .ok ((timesL ([0] : List Int) x88.1), x88.2) else .ok (x68.1, x77.2)) : Res ((List Int) × (List Int))).bind fun a103 => (l_stuffed a103.1).bind fun x109 => guardR (-(2 ^ 62) ≤ (((x109.length : Int) - 2) : Int) ∧ (((x109.length : Int) - 2) : Int) < 2 ^ 62) <| (forR (rngI 0 ((x109.length : Int) - 2)) (() : Unit) (fun x128 (a127 : Unit) => guardR (okEq (enc (cutL x109 (some x128) (some (x128 + 3)))) (enc ([0, 0, 1] : List Int))) <| (if (eqD (enc (cutL x109 (some x128) (some (x128 + 3)))) (enc ([0, 0, 1] : List Int))) = true then .ok (.rt (.rt false)) else .ok (.nx ())))).bind (afterR fun a149 => (l_digit a103.2 ((x109.length : Int) + 1)).bind fun x158 => (l_digit x158.2 256).bind fun x164 => (l_digit x164.2 4).bind fun x175 => (ixR ([0, 2, 1, x164.1] : List Int) x175.1).bind fun x185 => guardR ((cutL x109 none (some x158.1)).length + (cutL x109 (some (x158.1 + 1)) none).length ≤ 1000000) <| guardR ((cutL x109 none (some x158.1)).length + ([x185] : List Int).length ≤ 1000000) <| guardR (((cutL x109 none (some x158.1)) ++ ([x185] : List Int)).length + (cutL x109 (some (x158.1 + 1)) none).length ≤ 1000000) <| guardR ((cutL x109 none (some x158.1)).length + ([x185] : List Int).length ≤ 1000000) <| guardR (((cutL x109 none (some x158.1)) ++ ([x185] : List Int)).length + (cutL x109 (some x158.1) none).length ≤ 1000000) <| guardR (([a103.1, x109, ((cutL x109 none (some x158.1)) ++ (cutL x109 (some (x158.1 + 1)) none)), (((cutL x109 none (some x158.1)) ++ ([x185] : List Int)) ++ (cutL x109 (some (x158.1 + 1)) none))] : List (List Int)).length + ([(((cutL x109 none (some x158.1)) ++ ([x185] : List Int)) ++ (cutL x109 (some x158.1) none)), (cutL x109 none (some x158.1)), a103.1] : List (List Int)).length ≤ 1000000) <| (forR ((([a103.1, x109, ((cutL x109 none (some x158.1)) ++ (cutL x109 (some (x158.1 + 1)) none)), (((cutL x109 none (some x158.1)) ++ ([x185] : List Int)) ++ (cutL x109 (some (x158.1 + 1)) none))] : List (List Int)) ++ ([(((cutL x109 none (some x158.1)) ++ ([x185] : List Int)) ++ (cutL x109 (some x158.1) none)), (cutL x109 none (some x158.1)), a103.1] : List (List Int)))) (() : Unit) (fun x362 (a361 : Unit) => (l_right x362).bind fun x369 => (if x369 = true then .ok (.nx ()) else .ok (.rt (.rt false))))).bind (afterR fun a375 => ((m_stuffed (enc a103.1)).noErr).bind fun x380 => ((m_unstuffed (enc x380)).noErr).bind fun x386 => guardR (okEq (enc x386) (enc a103.1)) <| (if (!(eqD (enc x386) (enc a103.1))) = true then .ok (.rt false) else (l_odd_row x175.2 a103.1).bind fun x392 => (l_told__stuffed x392.1).bind fun x398 => guardR (okEq x398 (enc (⟨("bytes" : Str), false⟩ : (Tp2 Str Bool)))) <| (if (!(eqD x398 (enc (⟨("bytes" : Str), false⟩ : (Tp2 Str Bool))))) = true then .ok (.rt false) else (l_told__unstuffed x392.1).bind fun x409 => guardR (okEq x409 (enc (⟨("bytes" : Str), false⟩ : (Tp2 Str Bool)))) <| (if (!(eqD x409 (enc (⟨("bytes" : Str), false⟩ : (Tp2 Str Bool))))) = true then .ok (.rt false) else .ok (.nx ())))))))).bind (afterR fun a420 => .ok true)
def sp_law (K : PySem.W.Frag) : Sp := fun vs H Q _ => ∃ (B : Hp) (v_script : V) (a_script : (List Int)), Ex B H ∧ vs = [v_script] ∧ Bor K B H [] v_script (a_script.map enc) ∧ Post (m_law a_script) (fun r => Ret K [] B H (enc r) Q) (fun _ => False)
abbrev s_law : Stmt := top 22
theorem sc_law : FnScope ["_law_script", "_law_cell", "_law_state", "_law_row", "_law_there", "_law_at", "_law_byte", "_law_rows", "_law_some", "_law_odd"] ["_law_script"] (defScope s_law) := ⟨rfl, rfl, rfl, by decide +kernel, rfl, by decide +kernel, by decide +kernel⟩
section
variable {Pr : Program} {wo : World} {K : PySem.W.Frag} {mg : Str → Option Value} {base : Heap}
theorem ok_is_whole {f : Addr} {fd : FuncData}  (F : Fun K "is_whole" "is_whole" s_is_whole f fd) (bI_isinstance : mg "isinstance" = none) (bI_int : mg "int" = none) (bI_bool : mg "bool" = none) : FnOk Pr wo K mg base CX0 1 f fd ["thing", "low", "high"] (sp_is_whole K) := by
  refine F.ok sc_is_whole (fun vs H Q E h => ?_) (fun cdv A outer s H vs Q E hr h => ?_)
  · obtain ⟨_, _, _, _, _, _, rfl, _⟩ := h; rfl
  · obtain ⟨B, v, d, lo, hi, w, rfl, r, k⟩ := h
    have st := Stp.refl (W := []) w
    refine ⟨_, pss_one (ps_ret (pe_and (pe_callB call_isi (by rfl) bI_isinstance PyProof.Rows.boot_isinstance (pa_cons (pv 0) (pa_cons (pe_bltn (v := .ty "int") (by rfl) bI_int Y.boot_int rfl) pa_nil)))
      (pe_and (pe_not (pe_callB call_isi (by rfl) bI_isinstance PyProof.Rows.boot_isinstance (pa_cons (pv 0) (pa_cons (pe_bltn (v := .ty "bool") (by rfl) bI_bool Y.boot_bool rfl) pa_nil))))
       (pe_one (pe_chain op_le op_le (pv 1) (pv 0) (pv 2)))))), ?_⟩
    refine h_ret (h_and (h_cb (h_cons (h_var rfl (h_cons (h_c (h_nil (isi (t := "int") w r (h_bl ?_)))))))))
    cases d <;> try exact h_iteF (k.ok _ _ _ st (Rep.bl _))
    · refine h_iteT (h_and (h_not (h_cb (h_cons (h_var rfl (h_cons (h_c (h_nil (isi (t := "bool") w r (h_bl (h_bl ?_))))))))))) 
      exact h_iteF (k.ok _ _ _ st (Rep.bl _))
    · cases r
      refine h_iteT (h_and (h_not (h_cb (h_cons (h_var rfl (h_cons (h_c (h_nil (isi (t := "bool") w (Rep.int _) (h_bl (h_bl ?_)))))))))))
      refine h_iteT (h_chain (h_var rfl (h_var rfl (h_ch (fun Q q => h_var rfl q) ?_))))
      exact k.ok _ _ _ st (Rep.bl _)
theorem ok_is_bytes {f : Addr} {fd : FuncData}  (F : Fun K "is_bytes" "is_bytes" s_is_bytes f fd) {f_is_whole : Addr} {d_is_whole : FuncData} (g_is_whole : mg "is_whole" = some (.ref f_is_whole)) (k_is_whole : PySem.W.keepIn K (.ref f_is_whole) = true) (b_is_whole : L2.Binds K d_is_whole ["thing", "low", "high"] []) (G_is_whole : FnOk Pr wo K mg base CX0 1 f_is_whole d_is_whole ["thing", "low", "high"] (sp_is_whole K)) (bI_isinstance : mg "isinstance" = none) (bI_list : mg "list" = none) (bI_all : mg "all" = none) : FnOk Pr wo K mg base CX0 2 f fd ["thing"] (sp_is_bytes K) := by
  refine F.ok sc_is_bytes (fun vs H Q E h => ?_) (fun cdv A outer s H0 vs Q E hr h => ?_)
  · obtain ⟨_, _, _, _, rfl, _⟩ := h; rfl
  · obtain ⟨B0, v_thing, a_thing, w, rfl, r_thing, P⟩ := h
    have w0 := w
    have hu := hu_of hr
    have hu64 := hu64_of hr
    have hr1 : Room 1 _ := hr.mono (by decide)
    refine ⟨_, (pss_one (ps_ret (pe_and (pe_callB (r := rIsi K) call_isi (by rfl) bI_isinstance PyProof.Rows.boot_isinstance (pa_cons (pv 0) (pa_cons (pe_bltn (v := .ty "list") (by rfl) bI_list Y.boot_list rfl) pa_nil))) (pe_one (pe_callB (r := rAll K) (cr_all rfl) (by rfl) bI_all PyProof.Rows.boot_all (pa_cons (pe_lc (own := [("byte", 1)]) rfl sc_is_bytes.nd (pi_list (pv 0)) (blkOk_by (N := ["thing", "byte"]) (sc := defScope s_is_bytes) (by decide +kernel)) (fun _ _ _ _ _ => (pg_name (i := 1) sc_is_bytes.nd rfl (by first | exact Or.inl rfl | exact Or.inr rfl))) (fun _ _ _ _ _ => pts_nil) (fun _ _ _ _ _ => (pe_call G_is_whole hr1 rfl g_is_whole k_is_whole b_is_whole .nil pass0 (pa_cons (pv 1) (pa_cons pe_int (pa_cons pe_int pa_nil)))))) pa_nil)))))), ?_⟩
    unfold m_is_bytes at P
    have st := Stp.refl (W := []) w
    refine h_ret ?_
    refine h_and ?_
    refine h_cb ?_
    refine h_cons ?_
    refine h_var rfl ?_
    refine h_cons ?_
    refine h_c ?_
    refine h_nil ?_
    refine isi (t := "list") w (r_thing.mono st.ex) ?_
    refine h_bl ?_
    refine h_ite (fun c1 => ?_) (fun c1 => ?_)
    · replace P := P.iteT c1
      refine h_cb ?_
      refine h_cons ?_
      refine h_lcE ?_
      refine h_var rfl ?_
      obtain ⟨l1, hl2, P⟩ := P.asL
      have rc3 := (r_thing.mono st.ex)
      rw [hl2] at rc3
      obtain ⟨p4, xs5, rfl, hb6, hr7⟩ := Rep.sqB rc3
      refine h_lcL P (w.l hb6) hr7 (fun Dl (acc : List Bool) (a : Unit) H' => ∃ B', Stp [] B0 H0 B' H' ∧ H0 Dl = none ∧ Mu K B' H' Dl (acc.map enc)) (fun Dl hD => ⟨_, Stp.newM w hD, hD, Mu.new w hD .nil⟩) (fun _ _ _ _ j => ?_) ?_ ?_
      · obtain ⟨B17, s18, hD19, m20⟩ := j
        exact s18.ok.l (s18.ex.l hb6)
      · rintro Dl8 N9 T10 x11 v12 acc14 a15 H16 ⟨B17, s18, hD19, m20⟩ r13 hz21 kk22 kn23 P
        have wj25 := w
        have sj24 := s18
        have n26 := st.nn hD19
        replace st := st.go s18 go0
        replace w := s18.ok
        replace r13 := r13.mono s18.ex
        refine h_gname ?_
        refine h_lcT rfl ?_
        refine h_call ?_
        refine h_cons ?_
        refine h_var rfl ?_
        refine h_cons ?_
        refine h_c ?_
        refine h_cons ?_
        refine h_c ?_
        refine h_nil ?_
        refine ⟨B17, v12, x11, 0, 255, w, rfl, r13, (P.bind).mono (fun x27 P => ?_) (fun _ z => z)⟩
        refine fun v31 B28 H29 s30 r32 => ?_
        replace r13 := r13.mono s30.ex
        replace m20 := m20.step s30 nm0
        replace st := st.go s30 go0
        replace sj24 := sj24.go s30 go0
        replace w := s30.ok
        cases r32
        refine h_app (b := x27) w m20 (Rep.bl _) hz21 (fun H33 s34 m20 => ?_)
        replace r13 := r13.mono s34.ex
        replace st := st.go s34 (go1 (.inr n26))
        replace sj24 := sj24.go s34 (go1 (.inr hD19))
        replace w := s34.ok
        exact kk22 x27 () _ ⟨_, sj24, hD19, m20⟩ P.ok
      · rintro Dl8 acc14 a15 H16 ⟨B17, s18, hD19, m20⟩ P
        have n35 := st.nn hD19
        replace st := st.go s18 go0
        replace w := s18.ok
        replace P := P.un2
        obtain ⟨B40, e36, k37, g38, r39⟩ := Mu.keep m20
        replace st := g38 _ _ _ st w0 n35
        replace w := st.ok
        replace r39 : Rep K B40 (.ref Dl8) (enc acc14) := r39
        refine h_nil ?_
        obtain ⟨p41, xs42, hv, hs43, hr44⟩ := Rep.sq w r39
        cases hv
        refine h_all hs43 hr44 ?_
        exact P.ok _ _ _ st (Rep.bl _)
    · replace P := P.iteF c1
      exact P.ok _ _ _ st (Rep.bl _)
theorem ok_sure_row {f : Addr} {fd : FuncData}  (F : Fun K "sure_row" "sure_row" s_sure_row f fd) {C_NoBytes : Addr} (T_NoBytes : ExcR K mg "NoBytes" C_NoBytes) {f_is_bytes : Addr} {d_is_bytes : FuncData} (g_is_bytes : mg "is_bytes" = some (.ref f_is_bytes)) (k_is_bytes : PySem.W.keepIn K (.ref f_is_bytes) = true) (b_is_bytes : L2.Binds K d_is_bytes ["thing"] []) (G_is_bytes : FnOk Pr wo K mg base CX0 2 f_is_bytes d_is_bytes ["thing"] (sp_is_bytes K)) : FnOk Pr wo K mg base (L2.CX Pr wo) 3 f fd ["row"] (sp_sure_row K mg) := by
  refine F.okX sc_sure_row (fun vs H Q E h => ?_) (fun cdv A outer s H0 vs Q E hr h => ?_)
  · obtain ⟨_, _, _, _, rfl, _⟩ := h; rfl
  · obtain ⟨B0, v_row, a_row, w, rfl, r_row, P⟩ := h
    have w0 := w
    have hu := hu_of hr
    have hu64 := hu64_of hr
    have hr2 : Room 2 _ := hr.mono (by decide)
    refine ⟨_, (pss_one (ps_if (pt_not (pt_val (pe_call G_is_bytes hr2 rfl g_is_bytes k_is_bytes b_is_bytes .nil pass0 (pa_cons (pv 0) pa_nil)))) (pss_one (ps_raise rfl (takes_of rfl rfl rfl rfl) (pmk_own PySem.F.excBase_ValueError T_NoBytes.ex T_NoBytes.g T_NoBytes.kp (raises_own T_NoBytes.ec.hs T_NoBytes.ty) rfl))) pss_nil)), ?_⟩
    unfold m_sure_row at P
    have st := Stp.refl (W := []) w
    refine h_if ?_
    refine h_tnot ?_
    refine h_tB ?_
    refine h_call ?_
    refine h_cons ?_
    refine h_var rfl ?_
    refine h_nil ?_
    refine ⟨B0, v_row, a_row, w, rfl, (r_row.mono st.ex), (P.bind.noErr).mono (fun x1 P => ?_) (fun _ z => z.elim)⟩
    refine fun v5 B2 H3 s4 r6 => ?_
    replace st := st.go s4 go0
    replace w := s4.ok
    cases r6
    refine h_bl ?_
    refine h_iteN (fun c1 => ?_) (fun c1 => ?_)
    · replace P := P.iteF c1
      exact P.err _ _ _ T_NoBytes.g st
    · replace P := P.iteT c1
      refine h_next ?_
      exact P.ok _ _ _ st Rep.non
theorem ok_noughts_behind {f : Addr} {fd : FuncData}  (F : Fun K "noughts_behind" "noughts_behind" s_noughts_behind f fd)  : FnOk Pr wo K mg base CX0 1 f fd ["noughts", "byte"] (sp_noughts_behind K) := by
  refine F.ok sc_noughts_behind (fun vs H Q E h => ?_) (fun cdv A outer s H0 vs Q E hr h => ?_)
  · obtain ⟨_, _, _, _, rfl, _⟩ := h; rfl
  · obtain ⟨B0, a_noughts, a_byte, w, rfl, P⟩ := h
    have w0 := w
    have hu := hu_of hr
    have hu64 := hu64_of hr
    refine ⟨_, (pss_one (ps_ret (pe_ifExp (pt_cmpR op_eq (pv 1) pe_int (nomark _)) (pe_op op_add (pv 0) pe_int) pe_int))), ?_⟩
    unfold m_noughts_behind at P
    have st := Stp.refl (W := []) w
    refine h_ret ?_
    have wj2 := w
    have sj1 := Stp.refl (W := []) w
    refine h_exprJ P (fun (a : Int) v H' => ∃ B', Stp [] B0 H0 B' H' ∧ v = .int a) (fun N kk3 P => ?_) ?_
    · skip
      refine h_ifE ?_
      refine h_test ?_
      refine h_op ?_
      refine h_var rfl ?_
      refine h_c ?_
      refine h_eqI ?_
      refine h_bl ?_
      refine h_ite (fun c1 => ?_) (fun c1 => ?_)
      · replace P := P.iteT c1
        refine h_op ?_
        refine h_var rfl ?_
        refine h_c ?_
        refine h_I0 ?_
        exact kk3 (a_noughts + 1) _ _ ⟨_, sj1, rfl⟩ P.ok
      · replace P := P.iteF c1
        refine h_c ?_
        exact kk3 0 _ _ ⟨_, sj1, rfl⟩ P.ok
    rintro a4 v5 H7 ⟨B6, s8, r9⟩ P
    replace st := st.go s8 go0
    replace w := s8.ok
    subst r9
    exact P.ok _ _ _ st (Rep.int _)
theorem ok_stuffed {f : Addr} {fd : FuncData}  (F : Fun K "stuffed" "stuffed" s_stuffed f fd) {f_sure_row : Addr} {d_sure_row : FuncData} (g_sure_row : mg "sure_row" = some (.ref f_sure_row)) (k_sure_row : PySem.W.keepIn K (.ref f_sure_row) = true) (b_sure_row : L2.Binds K d_sure_row ["row"] []) (G_sure_row : FnOk Pr wo K mg base (L2.CX Pr wo) 3 f_sure_row d_sure_row ["row"] (sp_sure_row K mg)) {f_noughts_behind : Addr} {d_noughts_behind : FuncData} (g_noughts_behind : mg "noughts_behind" = some (.ref f_noughts_behind)) (k_noughts_behind : PySem.W.keepIn K (.ref f_noughts_behind) = true) (b_noughts_behind : L2.Binds K d_noughts_behind ["noughts", "byte"] []) (G_noughts_behind : FnOk Pr wo K mg base CX0 1 f_noughts_behind d_noughts_behind ["noughts", "byte"] (sp_noughts_behind K)) : FnOk Pr wo K mg base (L2.CX Pr wo) 4 f fd ["row"] (sp_stuffed K mg) := by
  refine F.okX sc_stuffed (fun vs H Q E h => ?_) (fun cdv A outer s H0 vs Q E hr h => ?_)
  · obtain ⟨_, _, _, _, rfl, _⟩ := h; rfl
  · obtain ⟨B0, v_row, a_row, w, rfl, r_row, P⟩ := h
    have w0 := w
    have hu := hu_of hr
    have hu64 := hu64_of hr
    have hr1 : Room 1 _ := hr.mono (by decide)
    have hr3 : Room 3 _ := hr.mono (by decide)
    refine ⟨_, (pss_cons (ps_expr (pe_callS G_sure_row hr3 rfl g_sure_row k_sure_row b_sure_row (fun σ => passAt (takes_of rfl rfl rfl rfl) σ) (pa_cons (pv 0) pa_nil)))
      (pss_cons (ps_set (i := 1) sc_stuffed.nd rfl (by first | exact Or.inl rfl | exact Or.inr rfl) (pe_lst pa_nil))
      (pss_cons (ps_set (i := 2) sc_stuffed.nd rfl (by first | exact Or.inl rfl | exact Or.inr rfl) pe_int)
      (pss_cons (ps_for (passes_of rfl) rfl (pi_list (pv 0)) (pg_name (i := 3) sc_stuffed.nd rfl (by first | exact Or.inl rfl | exact Or.inr rfl)) (pss_cons (ps_expr (pe_bm PySem.F.plainAttrs_list PySem.F.slot_list_append PySem.F.type_list_append mt_append (pv 1) (pa_cons (pv 3) pa_nil)))
      (pss_cons (ps_set (i := 2) sc_stuffed.nd rfl (by first | exact Or.inl rfl | exact Or.inr rfl) (pe_call G_noughts_behind hr1 rfl g_noughts_behind k_noughts_behind b_noughts_behind .nil pass0 (pa_cons (pv 2) (pa_cons (pv 3) pa_nil))))
      (pss_one (ps_if (pt_cmpR op_eq (pv 2) pe_int (nomark _)) (pss_cons (ps_expr (pe_bm PySem.F.plainAttrs_list PySem.F.slot_list_append PySem.F.type_list_append mt_append (pv 1) (pa_cons pe_int pa_nil)))
      (pss_one (ps_set (i := 2) sc_stuffed.nd rfl (by first | exact Or.inl rfl | exact Or.inr rfl) pe_int))) pss_nil)))))
      (pss_one (ps_ret (pv 1))))))), ?_⟩
    unfold m_stuffed at P
    have st := Stp.refl (W := []) w
    refine h_seq ?_
    refine h_drop ?_
    refine h_callS ?_
    refine h_cons ?_
    refine h_var rfl ?_
    refine h_nil ?_
    refine ⟨B0, v_row, a_row, w, rfl, (r_row.mono st.ex), Post.mono2 P.bind (fun e7 P => ?_) (fun x1 P => ?_)⟩
    · skip
      exact fun C B' H' g s => P C B' H' g (st.go s go0)
    refine fun v5 B2 H3 s4 r6 => ?_
    replace st := st.go s4 go0
    replace w := s4.ok
    cases r6
    refine h_nx ?_
    refine h_set ?_
    refine h_lst ?_
    refine h_nil ?_
    refine h_newM w (ds := (([] : List Int)).map enc) (K := K) .nil (fun p8 H9 hn12 s10 m11 => ?_) (by show 0 ≤ sizeLine; decide)
    have n13 := st.nn hn12
    replace st := st.go s10 go0
    replace w := s10.ok
    refine h_set ?_
    refine h_c ?_
    refine h_seq ?_
    refine h_forE ?_
    refine h_var rfl ?_
    obtain ⟨l14, hl15, P⟩ := P.asL
    have rc16 := (r_row.mono st.ex)
    rw [hl15] at rc16
    obtain ⟨p17, xs18, rfl, hb19, hr20⟩ := Rep.sqB rc16
    have wj22 := w
    have sj21 := Stp.refl (W := [p8]) w
    refine h_forL P (w.l hb19) hr20 (fun (a : Int × (List Int)) σ' H' => ∃ (B' : Hp) (o_byte : Option V), Stp [p8] B2 H9 B' H' ∧ σ' = [some ((.ref p17)), some ((.ref p8)), some (.int a.1), o_byte] ∧ Mu K B' H' p8 (a.2.map enc)) ⟨_, _, sj21, rfl, m11⟩ (fun _ _ _ j => ?_) ?_ ?_
    · obtain ⟨B32, o35, s34, rfl, m11⟩ := j
      exact s34.ok.l (s34.ex.l hb19)
    · rintro N23 T24 x29 v30 a28 _ H33 ⟨B32, o35, s34, rfl, m11⟩ r31 kk25 kr26 kb27 P
      replace st := st.go s34 (go1 (.inr n13))
      replace w := s34.ok
      have sj21 := s34
      replace r31 := r31.mono sj21.ex
      refine h_gname ?_
      refine h_seq ?_
      refine h_drop ?_
      refine h_bm ?_
      refine h_var rfl ?_
      refine h_bmL m11 ?_
      refine h_cons ?_
      refine h_var rfl ?_
      refine h_nil ?_
      obtain ⟨i38, hi39, P⟩ := P.asI
      have rc40 := r31
      rw [hi39] at rc40
      cases rc40
      obtain ⟨gd, P⟩ := P.guard
      refine h_append (b := i38) w m11 (Rep.int _) gd (fun H36 s37 m11 => ?_)
      replace r31 := r31.mono s37.ex
      replace st := st.go s37 (go1 (.inr n13))
      replace sj21 := sj21.go s37 (go1 (.inl (by simp)))
      replace w := s37.ok
      refine h_nx ?_
      refine h_set ?_
      refine h_call ?_
      refine h_cons ?_
      refine h_var rfl ?_
      refine h_cons ?_
      refine h_var rfl ?_
      refine h_nil ?_
      refine ⟨B32, a28.1, i38, w, rfl, (P.bind.noErr).mono (fun x41 P => ?_) (fun _ z => z.elim)⟩
      refine fun v45 B42 H43 s44 r46 => ?_
      replace m11 := m11.step s44 nm0
      replace r31 := r31.mono s44.ex
      replace st := st.go s44 go0
      replace sj21 := sj21.go s44 go0
      replace w := s44.ok
      cases r46
      refine h_if ?_
      refine h_test ?_
      refine h_op ?_
      refine h_var rfl ?_
      refine h_c ?_
      refine h_eqI ?_
      refine h_bl ?_
      refine h_ite (fun c1 => ?_) (fun c1 => ?_)
      · replace P := P.iteT c1
        refine h_seq ?_
        refine h_drop ?_
        refine h_bm ?_
        refine h_var rfl ?_
        refine h_bmL m11 ?_
        refine h_cons ?_
        refine h_c ?_
        refine h_nil ?_
        obtain ⟨gd, P⟩ := P.guard
        refine h_append (b := 2) w m11 (Rep.int _) gd (fun H47 s48 m11 => ?_)
        replace r31 := r31.mono s48.ex
        replace st := st.go s48 (go1 (.inr n13))
        replace sj21 := sj21.go s48 (go1 (.inl (by simp)))
        replace w := s48.ok
        refine h_nx ?_
        refine h_set1 ?_
        refine h_c ?_
        refine h_nx ?_
        exact kk25 (0, ((a28.2 ++ [i38]) ++ [2])) _ _ ⟨_, _, sj21, rfl, m11⟩ P.ok
      · replace P := P.iteF c1
        refine h_next ?_
        refine h_nx ?_
        exact kk25 (x41, (a28.2 ++ [i38])) _ _ ⟨_, _, sj21, rfl, m11⟩ P.ok
    · rintro a49 _ H51 ⟨B50, o53, s52, rfl, m11⟩ P
      replace st := st.go s52 (go1 (.inr n13))
      replace w := s52.ok
      refine h_nx ?_
      refine h_ret ?_
      refine h_var rfl ?_
      obtain ⟨B58, e54, k55, g56, r57⟩ := Mu.keep m11
      replace st := g56 _ _ _ st w0 n13
      replace w := st.ok
      replace r57 : Rep K B58 (.ref p8) (enc a49.2) := r57
      exact P.ok _ _ _ st r57
theorem ok_unstuffed {f : Addr} {fd : FuncData}  (F : Fun K "unstuffed" "unstuffed" s_unstuffed f fd) {C_NoStuffing : Addr} (T_NoStuffing : ExcR K mg "NoStuffing" C_NoStuffing) {f_sure_row : Addr} {d_sure_row : FuncData} (g_sure_row : mg "sure_row" = some (.ref f_sure_row)) (k_sure_row : PySem.W.keepIn K (.ref f_sure_row) = true) (b_sure_row : L2.Binds K d_sure_row ["row"] []) (G_sure_row : FnOk Pr wo K mg base (L2.CX Pr wo) 3 f_sure_row d_sure_row ["row"] (sp_sure_row K mg)) {f_noughts_behind : Addr} {d_noughts_behind : FuncData} (g_noughts_behind : mg "noughts_behind" = some (.ref f_noughts_behind)) (k_noughts_behind : PySem.W.keepIn K (.ref f_noughts_behind) = true) (b_noughts_behind : L2.Binds K d_noughts_behind ["noughts", "byte"] []) (G_noughts_behind : FnOk Pr wo K mg base CX0 1 f_noughts_behind d_noughts_behind ["noughts", "byte"] (sp_noughts_behind K)) : FnOk Pr wo K mg base (L2.CX Pr wo) 4 f fd ["row"] (sp_unstuffed K mg) := by
  refine F.okX sc_unstuffed (fun vs H Q E h => ?_) (fun cdv A outer s H0 vs Q E hr h => ?_)
  · obtain ⟨_, _, _, _, rfl, _⟩ := h; rfl
  · obtain ⟨B0, v_row, a_row, w, rfl, r_row, P⟩ := h
    have w0 := w
    have hu := hu_of hr
    have hu64 := hu64_of hr
    have hr1 : Room 1 _ := hr.mono (by decide)
    have hr3 : Room 3 _ := hr.mono (by decide)
    refine ⟨_, (pss_cons (ps_expr (pe_callS G_sure_row hr3 rfl g_sure_row k_sure_row b_sure_row (fun σ => passAt (takes_of rfl rfl rfl rfl) σ) (pa_cons (pv 0) pa_nil)))
      (pss_cons (ps_set (i := 1) sc_unstuffed.nd rfl (by first | exact Or.inl rfl | exact Or.inr rfl) (pe_lst pa_nil))
      (pss_cons (ps_set (i := 2) sc_unstuffed.nd rfl (by first | exact Or.inl rfl | exact Or.inr rfl) pe_int)
      (pss_cons (ps_for (passes_of rfl) rfl (pi_list (pv 0)) (pg_name (i := 3) sc_unstuffed.nd rfl (by first | exact Or.inl rfl | exact Or.inr rfl)) (pss_one (ps_if (pt_cmpR op_lt (pv 2) pe_int (nomark _)) (pss_cons (ps_expr (pe_bm PySem.F.plainAttrs_list PySem.F.slot_list_append PySem.F.type_list_append mt_append (pv 1) (pa_cons (pv 3) pa_nil)))
      (pss_one (ps_set (i := 2) sc_unstuffed.nd rfl (by first | exact Or.inl rfl | exact Or.inr rfl) (pe_call G_noughts_behind hr1 rfl g_noughts_behind k_noughts_behind b_noughts_behind .nil pass0 (pa_cons (pv 2) (pa_cons (pv 3) pa_nil)))))) (pss_one (ps_if (pt_cmpR (r := rEqD K) (op_eqD hu64) (pv 3) pe_int (nomark _)) (pss_one (ps_set (i := 2) sc_unstuffed.nd rfl (by first | exact Or.inl rfl | exact Or.inr rfl) pe_int)) (pss_one (ps_raise rfl (takes_of rfl rfl rfl rfl) (pmk_own PySem.F.excBase_ValueError T_NoStuffing.ex T_NoStuffing.g T_NoStuffing.kp (raises_own T_NoStuffing.ec.hs T_NoStuffing.ty) rfl))))))))
      (pss_cons (ps_if (pt_cmpR op_eq (pv 2) pe_int (nomark _)) (pss_one (ps_raise rfl (takes_of rfl rfl rfl rfl) (pmk_own PySem.F.excBase_ValueError T_NoStuffing.ex T_NoStuffing.g T_NoStuffing.kp (raises_own T_NoStuffing.ec.hs T_NoStuffing.ty) rfl))) pss_nil)
      (pss_one (ps_ret (pv 1)))))))), ?_⟩
    unfold m_unstuffed at P
    have st := Stp.refl (W := []) w
    refine h_seq ?_
    refine h_drop ?_
    refine h_callS ?_
    refine h_cons ?_
    refine h_var rfl ?_
    refine h_nil ?_
    refine ⟨B0, v_row, a_row, w, rfl, (r_row.mono st.ex), Post.mono2 P.bind (fun e7 P => ?_) (fun x1 P => ?_)⟩
    · skip
      exact fun C B' H' g s => P C B' H' g (st.go s go0)
    refine fun v5 B2 H3 s4 r6 => ?_
    replace st := st.go s4 go0
    replace w := s4.ok
    cases r6
    refine h_nx ?_
    refine h_set ?_
    refine h_lst ?_
    refine h_nil ?_
    refine h_newM w (ds := (([] : List Int)).map enc) (K := K) .nil (fun p8 H9 hn12 s10 m11 => ?_) (by show 0 ≤ sizeLine; decide)
    have n13 := st.nn hn12
    replace st := st.go s10 go0
    replace w := s10.ok
    refine h_set ?_
    refine h_c ?_
    refine h_seq ?_
    refine h_forE ?_
    refine h_var rfl ?_
    obtain ⟨l14, hl15, P⟩ := P.asL
    have rc16 := (r_row.mono st.ex)
    rw [hl15] at rc16
    obtain ⟨p17, xs18, rfl, hb19, hr20⟩ := Rep.sqB rc16
    have wj22 := w
    have sj21 := Stp.refl (W := [p8]) w
    refine h_forL P (w.l hb19) hr20 (fun (a : Int × (List Int)) σ' H' => ∃ (B' : Hp) (o_byte : Option V), Stp [p8] B2 H9 B' H' ∧ σ' = [some ((.ref p17)), some ((.ref p8)), some (.int a.1), o_byte] ∧ Mu K B' H' p8 (a.2.map enc)) ⟨_, _, sj21, rfl, m11⟩ (fun _ _ _ j => ?_) ?_ ?_
    · obtain ⟨B32, o35, s34, rfl, m11⟩ := j
      exact s34.ok.l (s34.ex.l hb19)
    · rintro N23 T24 x29 v30 a28 _ H33 ⟨B32, o35, s34, rfl, m11⟩ r31 kk25 kr26 kb27 P
      replace st := st.go s34 (go1 (.inr n13))
      replace w := s34.ok
      have sj21 := s34
      replace r31 := r31.mono sj21.ex
      refine h_gname ?_
      refine h_if ?_
      refine h_test ?_
      refine h_op ?_
      refine h_var rfl ?_
      refine h_c ?_
      refine h_I0 ?_
      refine h_bl ?_
      refine h_ite (fun c1 => ?_) (fun c1 => ?_)
      · replace P := P.iteT c1
        refine h_seq ?_
        refine h_drop ?_
        refine h_bm ?_
        refine h_var rfl ?_
        refine h_bmL m11 ?_
        refine h_cons ?_
        refine h_var rfl ?_
        refine h_nil ?_
        obtain ⟨i38, hi39, P⟩ := P.asI
        have rc40 := r31
        rw [hi39] at rc40
        cases rc40
        obtain ⟨gd, P⟩ := P.guard
        refine h_append (b := i38) w m11 (Rep.int _) gd (fun H36 s37 m11 => ?_)
        replace r31 := r31.mono s37.ex
        replace st := st.go s37 (go1 (.inr n13))
        replace sj21 := sj21.go s37 (go1 (.inl (by simp)))
        replace w := s37.ok
        refine h_nx ?_
        refine h_set1 ?_
        refine h_call ?_
        refine h_cons ?_
        refine h_var rfl ?_
        refine h_cons ?_
        refine h_var rfl ?_
        refine h_nil ?_
        refine ⟨B32, a28.1, i38, w, rfl, (P.bind.noErr).mono (fun x41 P => ?_) (fun _ z => z.elim)⟩
        refine fun v45 B42 H43 s44 r46 => ?_
        replace m11 := m11.step s44 nm0
        replace r31 := r31.mono s44.ex
        replace st := st.go s44 go0
        replace sj21 := sj21.go s44 go0
        replace w := s44.ok
        cases r46
        refine h_nx ?_
        exact kk25 (x41, (a28.2 ++ [i38])) _ _ ⟨_, _, sj21, rfl, m11⟩ P.ok
      · replace P := P.iteF c1
        refine h_if ?_
        refine h_test ?_
        refine h_op ?_
        refine h_var rfl ?_
        refine h_c ?_
        obtain ⟨gd, P⟩ := P.guard
        refine h_eqD (d := x29) (e := (enc (2 : Int))) w r31 (Rep.int _) gd ?_
        refine h_bl ?_
        refine h_ite (fun c1 => ?_) (fun c1 => ?_)
        · replace P := P.iteT c1
          refine h_set1 ?_
          refine h_c ?_
          refine h_nx ?_
          exact kk25 (0, a28.2) _ _ ⟨_, _, sj21, rfl, m11⟩ P.ok
        · replace P := P.iteF c1
          exact P.err _ _ _ T_NoStuffing.g st
    · rintro a47 _ H49 ⟨B48, o51, s50, rfl, m11⟩ P
      replace st := st.go s50 (go1 (.inr n13))
      replace w := s50.ok
      refine h_nx ?_
      refine h_seq <| h_if ?_
      refine h_test ?_
      refine h_op ?_
      refine h_var rfl ?_
      refine h_c ?_
      refine h_eqI ?_
      refine h_bl ?_
      refine h_ite (fun c1 => ?_) (fun c1 => ?_)
      · replace P := P.iteT c1
        exact P.err _ _ _ T_NoStuffing.g st
      · replace P := P.iteF c1
        refine h_next ?_
        refine h_nx ?_
        refine h_ret ?_
        refine h_var rfl ?_
        obtain ⟨B56, e52, k53, g54, r55⟩ := Mu.keep m11
        replace st := g54 _ _ _ st w0 n13
        replace w := st.ok
        replace r55 : Rep K B56 (.ref p8) (enc a47.2) := r55
        exact P.ok _ _ _ st r55
theorem ok__law_digit {f : Addr} {fd : FuncData}  (F : Fun K "_law_digit" "_law_digit" s__law_digit f fd) (bI_len : mg "len" = none) : FnOk Pr wo K mg base CX0 1 f fd ["_law_state", "_law_base"] (sp__law_digit K) := by
  refine F.ok sc__law_digit (fun vs H Q E h => ?_) (fun cdv A outer s H0 vs Q E hr h => ?_)
  · obtain ⟨_, _, _, _, _, rfl, _⟩ := h; rfl
  · obtain ⟨B0, p_state, a_state, a_base, w, rfl, m_state, P⟩ := h
    have w0 := w
    have hu := hu_of hr
    have hu64 := hu64_of hr
    refine ⟨_, (pss_cons (ps_if (pt_cmpR op_eq (pe_callB (r := rLenY K) cr_len (by rfl) bI_len PySem.boot_len (pa_cons (pv 0) pa_nil)) pe_int (nomark _)) (pss_one (ps_expr (pe_bm PySem.F.plainAttrs_list PySem.F.slot_list_extend PySem.F.type_list_extend mt_extend (pv 0) (pa_cons (pe_lst (pa_cons (pe_op op_mod (pe_ix (r := rIxL K) ix_list (pv 0) pe_int (fun _ _ => rfl)) pe_int) (pa_cons pe_int pa_nil))) pa_nil)))) pss_nil)
      (pss_cons (ps_if (pt_cmpR op_ge (pe_ix (r := rIxL K) ix_list (pv 0) pe_int (fun _ _ => rfl)) (pv 1) (nomark _)) (pss_cons (ps_set (i := 2) sc__law_digit.nd rfl (by first | exact Or.inl rfl | exact Or.inr rfl) (pe_op op_mod (pe_ix (r := rIxL K) ix_list (pv 0) pe_int (fun _ _ => rfl)) (pv 1)))
      (pss_cons (ps_asg (pe_op op_fdivW (pe_ix (r := rIxL K) ix_list (pv 0) pe_int (fun _ _ => rfl)) (pv 1)) (pg_sub (pv 0) pe_int set_list))
      (pss_one (ps_ret (pv 2))))) pss_nil)
      (pss_cons (ps_asg (pe_op op_add (pe_ix (r := rIxL K) ix_list (pv 0) pe_int (fun _ _ => rfl)) pe_int) (pg_sub (pv 0) pe_int set_list))
      (pss_cons (ps_set (i := 3) sc__law_digit.nd rfl (by first | exact Or.inl rfl | exact Or.inr rfl) (pe_op op_mod (pe_op op_mul (pe_op op_add (pe_op op_add (pe_ix (r := rIxL K) ix_list (pv 0) pe_int (fun _ _ => rfl)) (pe_op op_mul pe_int (pe_ix (r := rIxL K) ix_list (pv 0) pe_int (fun _ _ => rfl)))) pe_int) pe_int) pe_int))
      (pss_cons (ps_set (i := 3) sc__law_digit.nd rfl (by first | exact Or.inl rfl | exact Or.inr rfl) (pe_op op_mod (pe_op op_mulW (pv 3) (pe_op op_add (pe_op op_fdiv (pv 3) pe_int) pe_int)) pe_int))
      (pss_one (ps_ret (pe_op op_mod (pe_op op_mod (pe_op op_mulW (pv 3) (pe_op op_add (pe_op op_fdiv (pv 3) pe_int) pe_int)) pe_int) (pv 1))))))))), ?_⟩
    unfold l_digit at P
    have st := Stp.refl (W := [p_state]) w
    have wj2 := w
    have sj1 := Stp.refl (W := [p_state]) w
    refine h_joinS P (fun (a : (List Int)) σ' H' => ∃ (B' : Hp), Stp [p_state] B0 H0 B' H' ∧ σ' = [some ((.ref p_state)), some (.int a_base), none, none] ∧ Mu K B' H' p_state (a.map enc)) (fun N kk3 P => h_if ?_) ?_
    · skip
      refine h_test ?_
      refine h_op ?_
      refine h_cb ?_
      refine h_cons ?_
      refine h_var rfl ?_
      refine h_nil ?_
      obtain ⟨xs5, hv, hs6, hr7⟩ := Mu.sq m_state
      refine h_len hs6 hr7 ?_
      refine h_c ?_
      refine h_eqI ?_
      refine h_bl ?_
      refine h_ite (fun c1 => ?_) (fun c1 => ?_)
      · replace P := P.iteT c1
        refine h_drop ?_
        refine h_bm ?_
        refine h_var rfl ?_
        refine h_bmL m_state ?_
        refine h_cons ?_
        refine h_lst ?_
        refine h_cons ?_
        refine h_op ?_
        refine h_op ?_
        refine h_var rfl ?_
        refine h_c ?_
        obtain ⟨xs9, hv, hs10, hr11⟩ := Mu.sq m_state
        obtain ⟨x12, hx13, P⟩ := P.ix
        obtain ⟨u14, hu, r15⟩ := RepL.atE hr11 hx13
        refine h_ixL hs10 hu ?_
        cases r15
        refine h_c ?_
        refine h_I (by decide +kernel) ?_
        refine h_cons ?_
        refine h_c ?_
        refine h_nil ?_
        refine h_newM w (ds := (([(x12 % 2147483647), 0] : List Int)).map enc) (K := K) (.cons (Rep.int _) (.cons (Rep.int _) .nil)) (fun p16 H17 hn20 s18 m19 => ?_) (by show 2 ≤ sizeLine; decide)
        have n21 := st.nn hn20
        have n22 := sj1.nn hn20
        have ne23 := Mu.ne m_state hn20
        replace m_state := m_state.step s18 nm0
        replace st := st.go s18 go0
        replace sj1 := sj1.go s18 go0
        replace w := s18.ok
        refine h_nil ?_
        obtain ⟨gd, P⟩ := P.guard
        refine h_extend w m_state m19 gd (fun H24 s25 m_state => ?_)
        replace st := st.go s25 (go1 (.inl (by simp)))
        replace sj1 := sj1.go s25 (go1 (.inl (by simp)))
        replace w := s25.ok
        refine h_nx ?_
        exact kk3 (a_state ++ ([(x12 % 2147483647), 0] : List Int)) _ _ ⟨_, sj1, rfl, m_state⟩ P.ok
      · replace P := P.iteF c1
        refine h_next ?_
        refine h_nx ?_
        exact kk3 a_state _ _ ⟨_, sj1, rfl, m_state⟩ P.ok
    rintro a26 _ H28 ⟨B27, s29, rfl, m_state⟩ P
    replace st := st.go s29 (go1 (.inl (by simp)))
    replace w := s29.ok
    refine h_seq <| h_if ?_
    refine h_test ?_
    refine h_op ?_
    refine h_op ?_
    refine h_var rfl ?_
    refine h_c ?_
    obtain ⟨xs31, hv, hs32, hr33⟩ := Mu.sq m_state
    obtain ⟨x34, hx35, P⟩ := P.ix
    obtain ⟨u36, hu, r37⟩ := RepL.atE hr33 hx35
    refine h_ixL hs32 hu ?_
    cases r37
    refine h_var rfl ?_
    refine h_I0 ?_
    refine h_bl ?_
    refine h_ite (fun c1 => ?_) (fun c1 => ?_)
    · replace P := P.iteT c1
      refine h_set ?_
      refine h_op ?_
      refine h_op ?_
      refine h_var rfl ?_
      refine h_c ?_
      obtain ⟨xs39, hv, hs40, hr41⟩ := Mu.sq m_state
      obtain ⟨x42, hx43, P⟩ := P.ix
      obtain ⟨u44, hu, r45⟩ := RepL.atE hr41 hx43
      refine h_ixL hs40 hu ?_
      cases r45
      refine h_var rfl ?_
      obtain ⟨gd, P⟩ := P.guard
      refine h_I gd ?_
      replace P := P.lt
      generalize hx : (x42 % a_base) = x46 at P ⊢
      refine h_seq ?_
      refine h_asg ?_
      refine h_op ?_
      refine h_op ?_
      refine h_var rfl ?_
      refine h_c ?_
      obtain ⟨xs48, hv, hs49, hr50⟩ := Mu.sq m_state
      obtain ⟨x51, hx52, P⟩ := P.ix
      obtain ⟨u53, hu, r54⟩ := RepL.atE hr50 hx52
      refine h_ixL hs49 hu ?_
      cases r54
      refine h_var rfl ?_
      obtain ⟨gd, P⟩ := P.guard
      refine h_I gd ?_
      refine h_sub ?_
      refine h_var rfl ?_
      refine h_c ?_
      obtain ⟨j56, hj57, P⟩ := P.set
      refine h_setL (b := (x51 / a_base)) w m_state (Rep.int _) hj57 (fun H58 s59 m_state => ?_)
      replace st := st.go s59 (go1 (.inl (by simp)))
      replace w := s59.ok
      generalize hl : List.set a26 j56 (x51 / a_base) = x55 at *
      refine h_nx ?_
      refine h_ret ?_
      refine h_var rfl ?_
      exact P.ok _ _ _ st m_state (Rep.int _)
    · replace P := P.iteF c1
      refine h_next ?_
      refine h_nx ?_
      refine h_seq ?_
      refine h_asg ?_
      refine h_op ?_
      refine h_op ?_
      refine h_var rfl ?_
      refine h_c ?_
      obtain ⟨xs61, hv, hs62, hr63⟩ := Mu.sq m_state
      obtain ⟨x64, hx65, P⟩ := P.ix
      obtain ⟨u66, hu, r67⟩ := RepL.atE hr63 hx65
      refine h_ixL hs62 hu ?_
      cases r67
      refine h_c ?_
      refine h_I0 ?_
      refine h_sub ?_
      refine h_var rfl ?_
      refine h_c ?_
      obtain ⟨j69, hj70, P⟩ := P.set
      refine h_setL (b := (x64 + 1)) w m_state (Rep.int _) hj70 (fun H71 s72 m_state => ?_)
      replace st := st.go s72 (go1 (.inl (by simp)))
      replace w := s72.ok
      generalize hl : List.set a26 j69 (x64 + 1) = x68 at *
      refine h_nx ?_
      refine h_set ?_
      refine h_op ?_
      refine h_op ?_
      refine h_op ?_
      refine h_op ?_
      refine h_op ?_
      refine h_var rfl ?_
      refine h_c ?_
      obtain ⟨xs74, hv, hs75, hr76⟩ := Mu.sq m_state
      obtain ⟨x77, hx78, P⟩ := P.ix
      obtain ⟨u79, hu, r80⟩ := RepL.atE hr76 hx78
      refine h_ixL hs75 hu ?_
      cases r80
      refine h_op ?_
      refine h_c ?_
      refine h_op ?_
      refine h_var rfl ?_
      refine h_c ?_
      obtain ⟨xs82, hv, hs83, hr84⟩ := Mu.sq m_state
      obtain ⟨x85, hx86, P⟩ := P.ix
      obtain ⟨u87, hu, r88⟩ := RepL.atE hr84 hx86
      refine h_ixL hs83 hu ?_
      cases r88
      refine h_I (.inl ⟨by decide +kernel, by decide +kernel⟩) ?_
      refine h_I0 ?_
      refine h_c ?_
      refine h_I0 ?_
      refine h_c ?_
      refine h_I (.inr ⟨by decide +kernel, by decide +kernel⟩) ?_
      refine h_c ?_
      refine h_I (by decide +kernel) ?_
      replace P := P.lt
      generalize hx : ((((x77 + (7919 * x85)) + 1) * 48271) % 2147483647) = x89 at P ⊢
      refine h_set ?_
      refine h_op ?_
      refine h_op ?_
      refine h_var rfl ?_
      refine h_op ?_
      refine h_op ?_
      refine h_var rfl ?_
      refine h_c ?_
      refine h_I ⟨by decide +kernel, by decide +kernel⟩ ?_
      refine h_c ?_
      refine h_I0 ?_
      obtain ⟨gd, P⟩ := P.guard
      refine h_I gd ?_
      refine h_c ?_
      refine h_I (by decide +kernel) ?_
      replace P := P.lt
      generalize hx : ((x89 * ((x89 / 1009) + 69621)) % 2147483647) = x90 at P ⊢
      refine h_ret ?_
      refine h_op ?_
      refine h_op ?_
      refine h_op ?_
      refine h_var rfl ?_
      refine h_op ?_
      refine h_op ?_
      refine h_var rfl ?_
      refine h_c ?_
      refine h_I ⟨by decide +kernel, by decide +kernel⟩ ?_
      refine h_c ?_
      refine h_I0 ?_
      obtain ⟨gd, P⟩ := P.guard
      refine h_I gd ?_
      refine h_c ?_
      refine h_I (by decide +kernel) ?_
      refine h_var rfl ?_
      obtain ⟨gd, P⟩ := P.guard
      refine h_I gd ?_
      exact P.ok _ _ _ st m_state (Rep.int _)
theorem ok__law_odd_row {f : Addr} {fd : FuncData}  (F : Fun K "_law_odd_row" "_law_odd_row" s__law_odd_row f fd) {f__law_digit : Addr} {d__law_digit : FuncData} (g__law_digit : mg "_law_digit" = some (.ref f__law_digit)) (k__law_digit : PySem.W.keepIn K (.ref f__law_digit) = true) (b__law_digit : L2.Binds K d__law_digit ["_law_state", "_law_base"] []) (G__law_digit : FnOk Pr wo K mg base CX0 1 f__law_digit d__law_digit ["_law_state", "_law_base"] (sp__law_digit K)) (bI_len : mg "len" = none) (bI_tuple : mg "tuple" = none) : FnOk Pr wo K mg base CX0 2 f fd ["_law_state", "_law_row"] (sp__law_odd_row K) := by
  refine F.ok sc__law_odd_row (fun vs H Q E h => ?_) (fun cdv A outer s H0 vs Q E hr h => ?_)
  · obtain ⟨_, _, _, _, _, _, rfl, _⟩ := h; rfl
  · obtain ⟨B0, p_state, a_state, v_row, a_row, w, rfl, m_state, r_row, P⟩ := h
    have w0 := w
    have hu := hu_of hr
    have hu64 := hu64_of hr
    have hr1 : Room 1 _ := hr.mono (by decide)
    refine ⟨_, (pss_cons (ps_if (pt_cmpR op_eq (pe_call G__law_digit hr1 rfl g__law_digit k__law_digit b__law_digit .nil pass0 (pa_cons (pv 0) (pa_cons pe_int pa_nil))) pe_int (nomark _)) (pss_one (ps_ret (pe_ix (r := rIxL K) ix_list (pe_lst (pa_cons pe_non (pa_cons (pe_callTy (r := rTupY K) cr_tuple (by rfl) bI_tuple Y.boot_tuple (pa_cons (pv 1) pa_nil)) (pa_cons pe_str (pa_cons pe_int (pa_cons pe_dnewK (pa_cons pe_str (pa_cons pe_int pa_nil)))))))) (pe_call G__law_digit hr1 rfl g__law_digit k__law_digit b__law_digit .nil pass0 (pa_cons (pv 0) (pa_cons pe_int pa_nil))) (fun _ _ => rfl)))) pss_nil)
      (pss_cons (ps_set (i := 2) sc__law_odd_row.nd rfl (by first | exact Or.inl rfl | exact Or.inr rfl) (pe_ix (r := rIxL K) ix_list (pe_lst (pa_cons pe_int (pa_cons (pe_un un_neg pe_int) (pa_cons (pe_cmpR op_eq pe_int pe_int (nomark _)) (pa_cons pe_non (pa_cons pe_str (pa_cons (pe_lst (pa_cons pe_int pa_nil)) (pa_cons (pe_tup (pa_cons pe_int pa_nil)) (pa_cons (pe_op op_pow pe_int pe_int) (pa_cons (pe_un un_neg pe_int) (pa_cons (pe_cmpR op_eq pe_int pe_int (nomark _)) pa_nil))))))))))) (pe_call G__law_digit hr1 rfl g__law_digit k__law_digit b__law_digit .nil pass0 (pa_cons (pv 0) (pa_cons pe_int pa_nil))) (fun _ _ => rfl)))
      (pss_cons (ps_set (i := 3) sc__law_odd_row.nd rfl (by first | exact Or.inl rfl | exact Or.inr rfl) (pe_call G__law_digit hr1 rfl g__law_digit k__law_digit b__law_digit .nil pass0 (pa_cons (pv 0) (pa_cons (pe_op op_add (pe_callB (r := rLenY K) cr_len (by rfl) bI_len PySem.boot_len (pa_cons (pv 1) pa_nil)) pe_int) pa_nil))))
      (pss_one (ps_ret (pe_op (r := rCatQ K) op_catQ (pe_op (r := rCatQ K) op_catQ (pe_slice (r := rSlQ K) sl_Q (pv 1) po_none (po_some (pv 3))) (pe_lst (pa_cons (pv 2) pa_nil))) (pe_slice (r := rSlQ K) sl_Q (pv 1) (po_some (pv 3)) po_none))))))), ?_⟩
    unfold l_odd_row at P
    have st := Stp.refl (W := [p_state]) w
    refine h_seq <| h_if ?_
    refine h_test ?_
    refine h_op ?_
    refine h_call ?_
    refine h_cons ?_
    refine h_var rfl ?_
    refine h_cons ?_
    refine h_c ?_
    refine h_nil ?_
    refine ⟨B0, p_state, a_state, 4, w, rfl, m_state, (P.bind).mono (fun x1 P => ?_) (fun _ z => z)⟩
    refine fun v5 B2 H3 s4 m_state r6 => ?_
    replace st := st.go s4 (go1 (.inl (by simp)))
    replace w := s4.ok
    cases r6
    refine h_c ?_
    refine h_eqI ?_
    refine h_bl ?_
    refine h_ite (fun c1 => ?_) (fun c1 => ?_)
    · replace P := P.iteT c1
      refine h_ret ?_
      refine h_op ?_
      refine h_lst ?_
      refine h_cons ?_
      refine h_c ?_
      refine h_cons ?_
      refine h_cb ?_
      refine h_cons ?_
      refine h_var rfl ?_
      refine h_nil ?_
      obtain ⟨p7, xs8, rfl, hs9, hr10⟩ := Rep.sq w (r_row.mono st.ex)
      refine h_tupL hs9 (h_nwT w (K := K) hr10 (fun p11 B12 H13 s14 r15 => ?_))
      replace m_state := m_state.step s14 nm0
      replace st := st.go s14 go0
      replace w := s14.ok
      refine h_cons ?_
      refine h_c ?_
      refine h_cons ?_
      refine h_c ?_
      refine h_cons ?_
      refine h_dnew w (K := K) (fun p16 B17 H18 s19 r20 => ?_)
      replace m_state := m_state.step s19 nm0
      replace r15 := r15.mono s19.ex
      replace st := st.go s19 go0
      replace w := s19.ok
      refine h_cons ?_
      refine h_c ?_
      refine h_cons ?_
      refine h_c ?_
      refine h_nil ?_
      refine h_newL w (ds := (([(enc ()), (.tup (a_row.map enc) : D), (enc ("" : Str)), (enc (0 : Int)), (.dic [] : D), (enc ("ab" : Str)), (enc (255 : Int))] : List D)).map enc) (K := K) (.cons Rep.non (.cons r15 (.cons (Rep.str _) (.cons (Rep.int _) (.cons r20 (.cons (Rep.str _) (.cons (Rep.int _) .nil))))))) (fun p21 B22 H23 s24 r25 => ?_) (by show 7 ≤ sizeLine; decide)
      replace m_state := m_state.step s24 nm0
      replace st := st.go s24 go0
      replace w := s24.ok
      replace r25 : Rep K B22 (.ref p21) (enc ([(enc ()), (.tup (a_row.map enc) : D), (enc ("" : Str)), (enc (0 : Int)), (.dic [] : D), (enc ("ab" : Str)), (enc (255 : Int))] : List D)) := r25
      refine h_call ?_
      refine h_cons ?_
      refine h_var rfl ?_
      refine h_cons ?_
      refine h_c ?_
      refine h_nil ?_
      refine ⟨B22, p_state, x1.2, 7, w, rfl, m_state, (P.bind).mono (fun x26 P => ?_) (fun _ z => z)⟩
      refine fun v30 B27 H28 s29 m_state r31 => ?_
      replace r25 := r25.mono s29.ex
      replace st := st.go s29 (go1 (.inl (by simp)))
      replace w := s29.ok
      cases r31
      obtain ⟨p32, xs33, hv, hs34, hr35⟩ := Rep.sq w r25
      cases hv
      obtain ⟨x36, hx37, P⟩ := P.ix
      obtain ⟨u38, hu, r39⟩ := RepL.atE hr35 hx37
      refine h_ixL hs34 hu ?_
      exact P.ok _ _ _ st m_state r39
    · replace P := P.iteF c1
      refine h_next ?_
      refine h_nx ?_
      refine h_set ?_
      refine h_op ?_
      refine h_lst ?_
      refine h_cons ?_
      refine h_c ?_
      refine h_cons ?_
      refine h_un ?_
      refine h_c ?_
      refine h_U ?_
      refine h_cons ?_
      refine h_op ?_
      refine h_c ?_
      refine h_c ?_
      refine h_eqI ?_
      refine h_cons ?_
      refine h_c ?_
      refine h_cons ?_
      refine h_c ?_
      refine h_cons ?_
      refine h_lst ?_
      refine h_cons ?_
      refine h_c ?_
      refine h_nil ?_
      refine h_newL w (ds := (([0] : List Int)).map enc) (K := K) (.cons (Rep.int _) .nil) (fun p40 B41 H42 s43 r44 => ?_) (by show 1 ≤ sizeLine; decide)
      replace m_state := m_state.step s43 nm0
      replace st := st.go s43 go0
      replace w := s43.ok
      replace r44 : Rep K B41 (.ref p40) (enc ([0] : List Int)) := r44
      refine h_cons ?_
      refine h_tup ?_
      refine h_cons ?_
      refine h_c ?_
      refine h_nil ?_
      refine h_newT w (K := K) (.cons (Rep.int _) .nil) (fun p45 B46 H47 s48 r49 => ?_) (by show 1 ≤ sizeLine; decide)
      replace m_state := m_state.step s48 nm0
      replace r44 := r44.mono s48.ex
      replace st := st.go s48 go0
      replace w := s48.ok
      replace r49 : Rep K B46 (.ref p45) (enc (⟨0⟩ : (Tp1 Int))) := r49
      refine h_cons ?_
      refine h_op (h_c (h_c (h_pow (k := 1000000000) (by decide +kernel) (by decide +kernel) ?_)))
      refine h_cons ?_
      refine h_un ?_
      refine h_c ?_
      refine h_U ?_
      refine h_cons ?_
      refine h_op ?_
      refine h_c ?_
      refine h_c ?_
      refine h_eqI ?_
      refine h_nil ?_
      refine h_newL w (ds := (([(enc (256 : Int)), (enc ((-1) : Int)), (enc (decide (1 = 1))), (enc ()), (enc ("0" : Str)), (enc ([0] : List Int)), (enc (⟨0⟩ : (Tp1 Int))), (enc (1000000000 : Int)), (enc ((-256) : Int)), (enc (decide (1 = 2)))] : List D)).map enc) (K := K) (.cons (Rep.int _) (.cons (Rep.int _) (.cons (Rep.bl _) (.cons Rep.non (.cons (Rep.str _) (.cons r44 (.cons r49 (.cons (Rep.int _) (.cons (Rep.int _) (.cons (Rep.bl _) .nil)))))))))) (fun p50 B51 H52 s53 r54 => ?_) (by show 10 ≤ sizeLine; decide)
      replace m_state := m_state.step s53 nm0
      replace st := st.go s53 go0
      replace w := s53.ok
      replace r54 : Rep K B51 (.ref p50) (enc ([(enc (256 : Int)), (enc ((-1) : Int)), (enc (decide (1 = 1))), (enc ()), (enc ("0" : Str)), (enc ([0] : List Int)), (enc (⟨0⟩ : (Tp1 Int))), (enc (1000000000 : Int)), (enc ((-256) : Int)), (enc (decide (1 = 2)))] : List D)) := r54
      refine h_call ?_
      refine h_cons ?_
      refine h_var rfl ?_
      refine h_cons ?_
      refine h_c ?_
      refine h_nil ?_
      refine ⟨B51, p_state, x1.2, 10, w, rfl, m_state, (P.bind).mono (fun x55 P => ?_) (fun _ z => z)⟩
      refine fun v59 B56 H57 s58 m_state r60 => ?_
      replace r54 := r54.mono s58.ex
      replace st := st.go s58 (go1 (.inl (by simp)))
      replace w := s58.ok
      cases r60
      obtain ⟨p61, xs62, hv, hs63, hr64⟩ := Rep.sq w r54
      cases hv
      obtain ⟨x65, hx66, P⟩ := P.ix
      obtain ⟨u67, hu, r68⟩ := RepL.atE hr64 hx66
      refine h_ixL hs63 hu ?_
      refine h_set ?_
      refine h_call ?_
      refine h_cons ?_
      refine h_var rfl ?_
      refine h_cons ?_
      refine h_op ?_
      refine h_cb ?_
      refine h_cons ?_
      refine h_var rfl ?_
      refine h_nil ?_
      obtain ⟨p69, xs70, rfl, hs71, hr72⟩ := Rep.sq w (r_row.mono st.ex)
      refine h_len hs71 hr72 ?_
      refine h_c ?_
      refine h_I0 ?_
      refine h_nil ?_
      refine ⟨B56, p_state, x55.2, ((a_row.length : Int) + 1), w, rfl, m_state, (P.bind).mono (fun x73 P => ?_) (fun _ z => z)⟩
      refine fun v77 B74 H75 s76 m_state r78 => ?_
      replace r68 := r68.mono s76.ex
      replace st := st.go s76 (go1 (.inl (by simp)))
      replace w := s76.ok
      cases r78
      refine h_ret ?_
      refine h_op ?_
      refine h_op ?_
      refine h_sl ?_
      refine h_var rfl ?_
      refine h_nopart ?_
      refine h_part ?_
      refine h_var rfl ?_
      refine h_isI ?_
      obtain ⟨p79, xs80, hv, hs81, hr82⟩ := Rep.sq w (r_row.mono st.ex)
      cases hv
      refine h_slQ hs81 ?_
      refine h_nwL w (ds := ((cutL a_row none (some x73.1))).map enc) (K := K) (hr82.cut none (some x73.1)) (fun p83 B84 H85 s86 r87 => ?_) 
      replace m_state := m_state.step s86 nm0
      replace r68 := r68.mono s86.ex
      replace st := st.go s86 go0
      replace w := s86.ok
      replace r87 : Rep K B84 (.ref p83) (enc (cutL a_row none (some x73.1))) := r87
      refine h_lst ?_
      refine h_cons ?_
      refine h_var rfl ?_
      refine h_nil ?_
      refine h_newL w (ds := (([x65] : List D)).map enc) (K := K) (.cons r68 .nil) (fun p88 B89 H90 s91 r92 => ?_) (by show 1 ≤ sizeLine; decide)
      replace m_state := m_state.step s91 nm0
      replace r68 := r68.mono s91.ex
      replace r87 := r87.mono s91.ex
      replace st := st.go s91 go0
      replace w := s91.ok
      replace r92 : Rep K B89 (.ref p88) (enc ([x65] : List D)) := r92
      obtain ⟨p93, xs94, hv, hs95, hr96⟩ := Rep.sq w r87
      cases hv
      obtain ⟨p97, xs98, hv, hs99, hr100⟩ := Rep.sq w r92
      cases hv
      replace hr96 := hr96.toD
      obtain ⟨gd, P⟩ := P.guard
      refine h_cat hs95 hs99 (by have g := gd; simp only [hr96.length, hr100.length, List.length_map] at g ⊢; exact Nat.le_trans g (by decide)) ?_
      refine h_nwL w (ds := ((((cutL a_row none (some x73.1)).map enc : List D) ++ ([x65] : List D))).map enc) (K := K) (RepL.cat hr96 hr100) (fun p101 B102 H103 s104 r105 => ?_) 
      replace m_state := m_state.step s104 nm0
      replace r68 := r68.mono s104.ex
      replace st := st.go s104 go0
      replace w := s104.ok
      replace r105 : Rep K B102 (.ref p101) (enc (((cutL a_row none (some x73.1)).map enc : List D) ++ ([x65] : List D))) := r105
      refine h_sl ?_
      refine h_var rfl ?_
      refine h_part ?_
      refine h_var rfl ?_
      refine h_isI ?_
      refine h_nopart ?_
      obtain ⟨p106, xs107, hv, hs108, hr109⟩ := Rep.sq w (r_row.mono st.ex)
      cases hv
      refine h_slQ hs108 ?_
      refine h_nwL w (ds := ((cutL a_row (some x73.1) none)).map enc) (K := K) (hr109.cut (some x73.1) none) (fun p110 B111 H112 s113 r114 => ?_) 
      replace m_state := m_state.step s113 nm0
      replace r68 := r68.mono s113.ex
      replace r105 := r105.mono s113.ex
      replace st := st.go s113 go0
      replace w := s113.ok
      replace r114 : Rep K B111 (.ref p110) (enc (cutL a_row (some x73.1) none)) := r114
      obtain ⟨p115, xs116, hv, hs117, hr118⟩ := Rep.sq w r105
      cases hv
      obtain ⟨p119, xs120, hv, hs121, hr122⟩ := Rep.sq w r114
      cases hv
      replace hr122 := hr122.toD
      obtain ⟨gd, P⟩ := P.guard
      refine h_cat hs117 hs121 (by have g := gd; simp only [hr118.length, hr122.length, List.length_map] at g ⊢; exact Nat.le_trans g (by decide)) ?_
      refine h_nwL w (ds := (((((cutL a_row none (some x73.1)).map enc : List D) ++ ([x65] : List D)) ++ ((cutL a_row (some x73.1) none).map enc : List D))).map enc) (K := K) (RepL.cat hr118 hr122) (fun p123 B124 H125 s126 r127 => ?_) 
      replace m_state := m_state.step s126 nm0
      replace r68 := r68.mono s126.ex
      replace st := st.go s126 go0
      replace w := s126.ok
      replace r127 : Rep K B124 (.ref p123) (enc ((((cutL a_row none (some x73.1)).map enc : List D) ++ ([x65] : List D)) ++ ((cutL a_row (some x73.1) none).map enc : List D))) := r127
      exact P.ok _ _ _ st m_state r127
theorem ok__law_bytes {f : Addr} {fd : FuncData}  (F : Fun K "_law_bytes" "_law_bytes" s__law_bytes f fd) {f__law_digit : Addr} {d__law_digit : FuncData} (g__law_digit : mg "_law_digit" = some (.ref f__law_digit)) (k__law_digit : PySem.W.keepIn K (.ref f__law_digit) = true) (b__law_digit : L2.Binds K d__law_digit ["_law_state", "_law_base"] []) (G__law_digit : FnOk Pr wo K mg base CX0 1 f__law_digit d__law_digit ["_law_state", "_law_base"] (sp__law_digit K)) (bI_range : mg "range" = none) : FnOk Pr wo K mg base CX0 2 f fd ["_law_state", "_law_many"] (sp__law_bytes K) := by
  refine F.ok sc__law_bytes (fun vs H Q E h => ?_) (fun cdv A outer s H0 vs Q E hr h => ?_)
  · obtain ⟨_, _, _, _, _, rfl, _⟩ := h; rfl
  · obtain ⟨B0, p_state, a_state, a_many, w, rfl, m_state, P⟩ := h
    have w0 := w
    have hu := hu_of hr
    have hu64 := hu64_of hr
    have hr1 : Room 1 _ := hr.mono (by decide)
    refine ⟨_, (pss_cons (ps_set (i := 2) sc__law_bytes.nd rfl (by first | exact Or.inl rfl | exact Or.inr rfl) (pe_call G__law_digit hr1 rfl g__law_digit k__law_digit b__law_digit .nil pass0 (pa_cons (pv 0) (pa_cons pe_int pa_nil))))
      (pss_cons (ps_set (i := 3) sc__law_bytes.nd rfl (by first | exact Or.inl rfl | exact Or.inr rfl) (pe_lst pa_nil))
      (pss_cons (ps_for PassesOwn.never rfl (pi_range1 (by rfl) bI_range (pa_cons (pv 1) pa_nil)) (pg_name (i := 4) sc__law_bytes.nd rfl (by first | exact Or.inl rfl | exact Or.inr rfl)) (pss_cons (ps_set (i := 5) sc__law_bytes.nd rfl (by first | exact Or.inl rfl | exact Or.inr rfl) (pe_call G__law_digit hr1 rfl g__law_digit k__law_digit b__law_digit .nil pass0 (pa_cons (pv 0) (pa_cons pe_int pa_nil))))
      (pss_one (ps_expr (pe_bm PySem.F.plainAttrs_list PySem.F.slot_list_append PySem.F.type_list_append mt_append (pv 3) (pa_cons (pe_ix (r := rIxL K) ix_list (pe_lst (pa_cons (pv 5) (pa_cons (pe_op op_mod (pv 5) pe_int) (pa_cons (pe_ix (r := rIxL K) ix_list (pe_lst (pa_cons pe_int (pa_cons pe_int (pa_cons pe_int (pa_cons pe_int (pa_cons pe_int (pa_cons (pv 5) pa_nil))))))) (pe_op op_mod (pv 5) pe_int) (fun _ _ => rfl)) pa_nil)))) (pv 2) (fun _ _ => rfl)) pa_nil))))))
      (pss_one (ps_ret (pv 3)))))), ?_⟩
    unfold l_bytes at P
    have st := Stp.refl (W := [p_state]) w
    refine h_set ?_
    refine h_call ?_
    refine h_cons ?_
    refine h_var rfl ?_
    refine h_cons ?_
    refine h_c ?_
    refine h_nil ?_
    refine ⟨B0, p_state, a_state, 3, w, rfl, m_state, (P.bind).mono (fun x1 P => ?_) (fun _ z => z)⟩
    refine fun v5 B2 H3 s4 m_state r6 => ?_
    replace st := st.go s4 (go1 (.inl (by simp)))
    replace w := s4.ok
    cases r6
    refine h_set ?_
    refine h_lst ?_
    refine h_nil ?_
    refine h_newM w (ds := (([] : List Int)).map enc) (K := K) .nil (fun p7 H8 hn11 s9 m10 => ?_) (by show 0 ≤ sizeLine; decide)
    have n12 := st.nn hn11
    have ne13 := Mu.ne m_state hn11
    replace m_state := m_state.step s9 nm0
    replace st := st.go s9 go0
    replace w := s9.ok
    refine h_seq ?_
    refine h_rng1 ?_
    refine h_cons ?_
    refine h_var rfl ?_
    refine h_nil ?_
    obtain ⟨gz14, P⟩ := P.guard
    have wj16 := w
    have sj15 := Stp.refl (W := [p_state, p7]) w
    refine h_forR1 P gz14 (fun (a : (List Int) × (List Int)) σ' H' => ∃ (B' : Hp) (o__law_byte : Option V) (o__law_k : Option V), Stp [p_state, p7] B2 H8 B' H' ∧ σ' = [some ((.ref p_state)), some (.int a_many), some (.int x1.1), some ((.ref p7)), o__law_k, o__law_byte] ∧ Mu K B' H' p_state (a.1.map enc) ∧ Mu K B' H' p7 (a.2.map enc)) ⟨_, _, _, sj15, rfl, m_state, m10⟩ ?_ ?_
    · rintro N17 T18 x23 a22 _ H27 ⟨B26, o29, o30, s28, rfl, m_state, m10⟩ hlox23 hhix23 kk19 kr20 kb21 P
      replace st := st.go s28 (go2 (.inl (by simp)) (.inr n12))
      replace w := s28.ok
      have sj15 := s28
      refine h_gname ?_
      refine h_set ?_
      refine h_call ?_
      refine h_cons ?_
      refine h_var rfl ?_
      refine h_cons ?_
      refine h_c ?_
      refine h_nil ?_
      refine ⟨B26, p_state, a22.1, 256, w, rfl, m_state, (P.bind).mono (fun x31 P => ?_) (fun _ z => z)⟩
      refine fun v35 B32 H33 s34 m_state r36 => ?_
      replace m10 := m10.step s34 (nm1 ne13.symm)
      replace st := st.go s34 (go1 (.inl (by simp)))
      replace sj15 := sj15.go s34 (go1 (.inl (by simp)))
      replace w := s34.ok
      cases r36
      refine h_drop ?_
      refine h_bm ?_
      refine h_var rfl ?_
      refine h_bmL m10 ?_
      refine h_cons ?_
      refine h_op ?_
      refine h_lst ?_
      refine h_cons ?_
      refine h_var rfl ?_
      refine h_cons ?_
      refine h_op ?_
      refine h_var rfl ?_
      refine h_c ?_
      refine h_I (by decide +kernel) ?_
      refine h_cons ?_
      refine h_op ?_
      refine h_lst ?_
      refine h_cons ?_
      refine h_c ?_
      refine h_cons ?_
      refine h_c ?_
      refine h_cons ?_
      refine h_c ?_
      refine h_cons ?_
      refine h_c ?_
      refine h_cons ?_
      refine h_c ?_
      refine h_cons ?_
      refine h_var rfl ?_
      refine h_nil ?_
      refine h_newL w (ds := (([0, 0, 1, 2, 255, x31.1] : List Int)).map enc) (K := K) (.cons (Rep.int _) (.cons (Rep.int _) (.cons (Rep.int _) (.cons (Rep.int _) (.cons (Rep.int _) (.cons (Rep.int _) .nil)))))) (fun p37 B38 H39 s40 r41 => ?_) (by show 6 ≤ sizeLine; decide)
      replace m_state := m_state.step s40 nm0
      replace m10 := m10.step s40 nm0
      replace st := st.go s40 go0
      replace sj15 := sj15.go s40 go0
      replace w := s40.ok
      replace r41 : Rep K B38 (.ref p37) (enc ([0, 0, 1, 2, 255, x31.1] : List Int)) := r41
      refine h_op ?_
      refine h_var rfl ?_
      refine h_c ?_
      refine h_I (by decide +kernel) ?_
      obtain ⟨p42, xs43, hv, hs44, hr45⟩ := Rep.sq w r41
      cases hv
      obtain ⟨x46, hx47, P⟩ := P.ix
      obtain ⟨u48, hu, r49⟩ := RepL.atE hr45 hx47
      refine h_ixL hs44 hu ?_
      cases r49
      refine h_nil ?_
      refine h_newL w (ds := (([x31.1, (x31.1 % 3), x46] : List Int)).map enc) (K := K) (.cons (Rep.int _) (.cons (Rep.int _) (.cons (Rep.int _) .nil))) (fun p50 B51 H52 s53 r54 => ?_) (by show 3 ≤ sizeLine; decide)
      replace m_state := m_state.step s53 nm0
      replace m10 := m10.step s53 nm0
      replace st := st.go s53 go0
      replace sj15 := sj15.go s53 go0
      replace w := s53.ok
      replace r54 : Rep K B51 (.ref p50) (enc ([x31.1, (x31.1 % 3), x46] : List Int)) := r54
      refine h_var rfl ?_
      obtain ⟨p55, xs56, hv, hs57, hr58⟩ := Rep.sq w r54
      cases hv
      obtain ⟨x59, hx60, P⟩ := P.ix
      obtain ⟨u61, hu, r62⟩ := RepL.atE hr58 hx60
      refine h_ixL hs57 hu ?_
      cases r62
      refine h_nil ?_
      obtain ⟨gd, P⟩ := P.guard
      refine h_append (b := x59) w m10 (Rep.int _) gd (fun H63 s64 m10 => ?_)
      replace m_state := m_state.step s64 (nm1 ne13)
      replace st := st.go s64 (go1 (.inr n12))
      replace sj15 := sj15.go s64 (go1 (.inl (by simp)))
      replace w := s64.ok
      refine h_nx ?_
      exact kk19 (x31.2, (a22.2 ++ [x59])) _ _ ⟨_, _, _, sj15, rfl, m_state, m10⟩ P.ok
    · rintro a65 _ H67 ⟨B66, o69, o70, s68, rfl, m_state, m10⟩ P
      replace st := st.go s68 (go2 (.inl (by simp)) (.inr n12))
      replace w := s68.ok
      refine h_nx ?_
      refine h_ret ?_
      refine h_var rfl ?_
      obtain ⟨B75, e71, k72, g73, r74⟩ := Mu.keep m10
      replace st := g73 _ _ _ st w0 n12
      replace m_state := m_state.kp e71 k72 ne13
      replace w := st.ok
      replace r74 : Rep K B75 (.ref p7) (enc a65.2) := r74
      exact P.ok _ _ _ st m_state r74
theorem ok__law_stuffed {f : Addr} {fd : FuncData}  (F : Fun K "_law_stuffed" "_law_stuffed" s__law_stuffed f fd) (bI_int : mg "int" = none) : FnOk Pr wo K mg base CX0 1 f fd ["_law_row"] (sp__law_stuffed K) := by
  refine F.ok sc__law_stuffed (fun vs H Q E h => ?_) (fun cdv A outer s H0 vs Q E hr h => ?_)
  · obtain ⟨_, _, _, _, rfl, _⟩ := h; rfl
  · obtain ⟨B0, v_row, a_row, w, rfl, r_row, P⟩ := h
    have w0 := w
    have hu := hu_of hr
    have hu64 := hu64_of hr
    refine ⟨_, (pss_cons (ps_set (i := 1) sc__law_stuffed.nd rfl (by first | exact Or.inl rfl | exact Or.inr rfl) (pe_lst pa_nil))
      (pss_cons (ps_set (i := 2) sc__law_stuffed.nd rfl (by first | exact Or.inl rfl | exact Or.inr rfl) pe_int)
      (pss_cons (ps_for PassesOwn.never rfl (pi_list (pv 0)) (pg_name (i := 3) sc__law_stuffed.nd rfl (by first | exact Or.inl rfl | exact Or.inr rfl)) (pss_cons (ps_expr (pe_bm PySem.F.plainAttrs_list PySem.F.slot_list_append PySem.F.type_list_append mt_append (pv 1) (pa_cons (pv 3) pa_nil)))
      (pss_cons (ps_set (i := 2) sc__law_stuffed.nd rfl (by first | exact Or.inl rfl | exact Or.inr rfl) (pe_op op_mulW (pe_op op_add (pv 2) pe_int) (pe_callTy cr_int (by rfl) bI_int Y.boot_int (pa_cons (pe_cmpR op_eq (pv 3) pe_int (nomark _)) pa_nil))))
      (pss_one (ps_if (pt_cmpR op_eq (pv 2) pe_int (nomark _)) (pss_cons (ps_expr (pe_bm PySem.F.plainAttrs_list PySem.F.slot_list_append PySem.F.type_list_append mt_append (pv 1) (pa_cons pe_int pa_nil)))
      (pss_one (ps_set (i := 2) sc__law_stuffed.nd rfl (by first | exact Or.inl rfl | exact Or.inr rfl) pe_int))) pss_nil)))))
      (pss_one (ps_ret (pv 1)))))), ?_⟩
    unfold l_stuffed at P
    have st := Stp.refl (W := []) w
    refine h_set ?_
    refine h_lst ?_
    refine h_nil ?_
    refine h_newM w (ds := (([] : List Int)).map enc) (K := K) .nil (fun p1 H2 hn5 s3 m4 => ?_) (by show 0 ≤ sizeLine; decide)
    have n6 := st.nn hn5
    replace st := st.go s3 go0
    replace w := s3.ok
    refine h_set ?_
    refine h_c ?_
    refine h_seq ?_
    refine h_forE ?_
    refine h_var rfl ?_
    obtain ⟨p7, xs8, rfl, hb9, hr10⟩ := Rep.sqB (r_row.mono st.ex)
    have wj12 := w
    have sj11 := Stp.refl (W := [p1]) w
    refine h_forL P (w.l hb9) hr10 (fun (a : Int × (List Int)) σ' H' => ∃ (B' : Hp) (o__law_byte : Option V), Stp [p1] B0 H2 B' H' ∧ σ' = [some ((.ref p7)), some ((.ref p1)), some (.int a.1), o__law_byte] ∧ Mu K B' H' p1 (a.2.map enc)) ⟨_, _, sj11, rfl, m4⟩ (fun _ _ _ j => ?_) ?_ ?_
    · obtain ⟨B22, o25, s24, rfl, m4⟩ := j
      exact s24.ok.l (s24.ex.l hb9)
    · rintro N13 T14 x19 v20 a18 _ H23 ⟨B22, o25, s24, rfl, m4⟩ r21 kk15 kr16 kb17 P
      replace st := st.go s24 (go1 (.inr n6))
      replace w := s24.ok
      have sj11 := s24
      replace r21 := r21.mono sj11.ex
      cases r21
      refine h_gname ?_
      refine h_seq ?_
      refine h_drop ?_
      refine h_bm ?_
      refine h_var rfl ?_
      refine h_bmL m4 ?_
      refine h_cons ?_
      refine h_var rfl ?_
      refine h_nil ?_
      obtain ⟨gd, P⟩ := P.guard
      refine h_append (b := x19) w m4 (Rep.int _) gd (fun H26 s27 m4 => ?_)
      replace st := st.go s27 (go1 (.inr n6))
      replace sj11 := sj11.go s27 (go1 (.inl (by simp)))
      replace w := s27.ok
      refine h_nx ?_
      refine h_set ?_
      refine h_op ?_
      refine h_op ?_
      refine h_var rfl ?_
      refine h_c ?_
      refine h_I0 ?_
      refine h_cb ?_
      refine h_cons ?_
      refine h_op ?_
      refine h_var rfl ?_
      refine h_c ?_
      refine h_eqI ?_
      refine h_nil ?_
      refine h_intB ?_
      obtain ⟨gd, P⟩ := P.guard
      refine h_I gd ?_
      replace P := P.lt
      generalize hx : ((a18.1 + 1) * (b2z (decide (x19 = 0)))) = x28 at P ⊢
      refine h_if ?_
      refine h_test ?_
      refine h_op ?_
      refine h_var rfl ?_
      refine h_c ?_
      refine h_eqI ?_
      refine h_bl ?_
      refine h_ite (fun c1 => ?_) (fun c1 => ?_)
      · replace P := P.iteT c1
        refine h_seq ?_
        refine h_drop ?_
        refine h_bm ?_
        refine h_var rfl ?_
        refine h_bmL m4 ?_
        refine h_cons ?_
        refine h_c ?_
        refine h_nil ?_
        obtain ⟨gd, P⟩ := P.guard
        refine h_append (b := 2) w m4 (Rep.int _) gd (fun H29 s30 m4 => ?_)
        replace st := st.go s30 (go1 (.inr n6))
        replace sj11 := sj11.go s30 (go1 (.inl (by simp)))
        replace w := s30.ok
        refine h_nx ?_
        refine h_set1 ?_
        refine h_c ?_
        refine h_nx ?_
        exact kk15 (0, ((a18.2 ++ [x19]) ++ [2])) _ _ ⟨_, _, sj11, rfl, m4⟩ P.ok
      · replace P := P.iteF c1
        refine h_next ?_
        refine h_nx ?_
        exact kk15 (x28, (a18.2 ++ [x19])) _ _ ⟨_, _, sj11, rfl, m4⟩ P.ok
    · rintro a31 _ H33 ⟨B32, o35, s34, rfl, m4⟩ P
      replace st := st.go s34 (go1 (.inr n6))
      replace w := s34.ok
      refine h_nx ?_
      refine h_ret ?_
      refine h_var rfl ?_
      obtain ⟨B40, e36, k37, g38, r39⟩ := Mu.keep m4
      replace st := g38 _ _ _ st w0 n6
      replace w := st.ok
      replace r39 : Rep K B40 (.ref p1) (enc a31.2) := r39
      exact P.ok _ _ _ st r39
theorem ok__law_unstuffed {f : Addr} {fd : FuncData}  (F : Fun K "_law_unstuffed" "_law_unstuffed" s__law_unstuffed f fd) (bI_len : mg "len" = none) : FnOk Pr wo K mg base CX0 1 f fd ["_law_row"] (sp__law_unstuffed K) := by
  refine F.ok sc__law_unstuffed (fun vs H Q E h => ?_) (fun cdv A outer s H0 vs Q E hr h => ?_)
  · obtain ⟨_, _, _, _, rfl, _⟩ := h; rfl
  · obtain ⟨B0, v_row, a_row, w, rfl, r_row, P⟩ := h
    have w0 := w
    have hu := hu_of hr
    have hu64 := hu64_of hr
    refine ⟨_, (pss_cons (ps_set (i := 1) sc__law_unstuffed.nd rfl (by first | exact Or.inl rfl | exact Or.inr rfl) (pe_lst pa_nil))
      (pss_cons (ps_set (i := 2) sc__law_unstuffed.nd rfl (by first | exact Or.inl rfl | exact Or.inr rfl) pe_int)
      (pss_cons (ps_while PassesOwn.never (pt_cmpR op_lt (pv 2) (pe_callB (r := rLenY K) cr_len (by rfl) bI_len PySem.boot_len (pa_cons (pv 0) pa_nil)) (nomark _)) (pss_one (ps_if (pt_cmpR (r := rEqD K) (op_eqD hu64) (pe_slice (r := rSlQ K) sl_Q (pv 0) (po_some (pv 2)) (po_some (pe_op op_add (pv 2) pe_int))) (pe_lst (pa_cons pe_int (pa_cons pe_int pa_nil))) (nomark _)) (pss_cons (ps_if (pt_cmpR (r := rNeD K) (op_neD hu64) (pe_slice (r := rSlQ K) sl_Q (pv 0) (po_some (pe_op op_add (pv 2) pe_int)) (po_some (pe_op op_add (pv 2) pe_int))) (pe_lst (pa_cons pe_int pa_nil)) (nomark _)) (pss_one (ps_ret pe_non)) pss_nil)
      (pss_cons (ps_set (i := 1) sc__law_unstuffed.nd rfl (by first | exact Or.inl rfl | exact Or.inr rfl) (pe_op (r := rCatQ K) op_catQ (pv 1) (pe_lst (pa_cons pe_int (pa_cons pe_int pa_nil)))))
      (pss_one (ps_set (i := 2) sc__law_unstuffed.nd rfl (by first | exact Or.inl rfl | exact Or.inr rfl) (pe_op op_add (pv 2) pe_int))))) (pss_cons (ps_expr (pe_bm PySem.F.plainAttrs_list PySem.F.slot_list_append PySem.F.type_list_append mt_append (pv 1) (pa_cons (pe_ix (r := rIxL K) ix_list (pv 0) (pv 2) (fun _ _ => rfl)) pa_nil)))
      (pss_one (ps_set (i := 2) sc__law_unstuffed.nd rfl (by first | exact Or.inl rfl | exact Or.inr rfl) (pe_op op_add (pv 2) pe_int)))))))
      (pss_one (ps_ret (pv 1)))))), ?_⟩
    unfold l_unstuffed at P
    have st := Stp.refl (W := []) w
    refine h_set ?_
    refine h_lst ?_
    refine h_nil ?_
    refine h_newM w (ds := (([] : List Int)).map enc) (K := K) .nil (fun p1 H2 hn5 s3 m4 => ?_) (by show 0 ≤ sizeLine; decide)
    have n6 := st.nn hn5
    replace st := st.go s3 go0
    replace w := s3.ok
    refine h_set ?_
    refine h_c ?_
    refine h_seq ?_
    have wj8 := w
    have sj7 := Stp.refl (W := [p1]) w
    refine h_while P (fun (a : (List Int) × Int) σ' H' => ∃ (B' : Hp) (p__law_found : Addr), Stp [p1] B0 H2 B' H' ∧ σ' = [some (v_row), some (.ref p__law_found), some (.int a.2)] ∧ Mu K B' H' p__law_found (a.1.map enc) ∧ H0 p__law_found = none ∧ (p__law_found ∈ [p1] ∨ H2 p__law_found = none)) ⟨_, p1, sj7, rfl, m4, n6, (.inl (by simp))⟩ ?_ ?_
    · rintro N9 C10 T11 a16 _ H18 ⟨B17, p20, s19, rfl, m21, n22, no23⟩ kn12 kk13 kr14 kb15 P
      replace st := st.go s19 (go1 (.inr n6))
      replace w := s19.ok
      have sj7 := s19
      refine h_test ?_
      refine h_op ?_
      refine h_var rfl ?_
      refine h_cb ?_
      refine h_cons ?_
      refine h_var rfl ?_
      refine h_nil ?_
      obtain ⟨p24, xs25, rfl, hs26, hr27⟩ := Rep.sq w (r_row.mono st.ex)
      refine h_len hs26 hr27 ?_
      refine h_I0 ?_
      refine h_bl ?_
      refine h_ite (fun c1 => ?_) (fun c1 => ?_)
      · replace P := P.iteT c1
        refine ⟨N9, kn12, ?_⟩
        refine h_if ?_
        refine h_test ?_
        refine h_op ?_
        refine h_sl ?_
        refine h_var rfl ?_
        refine h_part ?_
        refine h_var rfl ?_
        refine h_isI ?_
        refine h_part ?_
        refine h_op ?_
        refine h_var rfl ?_
        refine h_c ?_
        refine h_I0 ?_
        refine h_isI ?_
        obtain ⟨p28, xs29, hv, hs30, hr31⟩ := Rep.sq w (r_row.mono st.ex)
        cases hv
        refine h_slQ hs30 ?_
        refine h_nwL w (ds := ((cutL a_row (some a16.2) (some (a16.2 + 2)))).map enc) (K := K) (hr31.cut (some a16.2) (some (a16.2 + 2))) (fun p32 B33 H34 s35 r36 => ?_) 
        replace m21 := m21.step s35 nm0
        replace st := st.go s35 go0
        replace sj7 := sj7.go s35 go0
        replace w := s35.ok
        replace r36 : Rep K B33 (.ref p32) (enc (cutL a_row (some a16.2) (some (a16.2 + 2)))) := r36
        refine h_lst ?_
        refine h_cons ?_
        refine h_c ?_
        refine h_cons ?_
        refine h_c ?_
        refine h_nil ?_
        refine h_newL w (ds := (([0, 0] : List Int)).map enc) (K := K) (.cons (Rep.int _) (.cons (Rep.int _) .nil)) (fun p37 B38 H39 s40 r41 => ?_) (by show 2 ≤ sizeLine; decide)
        replace m21 := m21.step s40 nm0
        replace r36 := r36.mono s40.ex
        replace st := st.go s40 go0
        replace sj7 := sj7.go s40 go0
        replace w := s40.ok
        replace r41 : Rep K B38 (.ref p37) (enc ([0, 0] : List Int)) := r41
        obtain ⟨gd, P⟩ := P.guard
        refine h_eqD (d := (enc (cutL a_row (some a16.2) (some (a16.2 + 2))))) (e := (enc ([0, 0] : List Int))) w r36 r41 gd ?_
        refine h_bl ?_
        refine h_ite (fun c1 => ?_) (fun c1 => ?_)
        · replace P := P.iteT c1
          refine h_seq <| h_if ?_
          refine h_test ?_
          refine h_op ?_
          refine h_sl ?_
          refine h_var rfl ?_
          refine h_part ?_
          refine h_op ?_
          refine h_var rfl ?_
          refine h_c ?_
          refine h_I0 ?_
          refine h_isI ?_
          refine h_part ?_
          refine h_op ?_
          refine h_var rfl ?_
          refine h_c ?_
          refine h_I0 ?_
          refine h_isI ?_
          obtain ⟨p42, xs43, hv, hs44, hr45⟩ := Rep.sq w (r_row.mono st.ex)
          cases hv
          refine h_slQ hs44 ?_
          refine h_nwL w (ds := ((cutL a_row (some (a16.2 + 2)) (some (a16.2 + 3)))).map enc) (K := K) (hr45.cut (some (a16.2 + 2)) (some (a16.2 + 3))) (fun p46 B47 H48 s49 r50 => ?_) 
          replace m21 := m21.step s49 nm0
          replace st := st.go s49 go0
          replace sj7 := sj7.go s49 go0
          replace w := s49.ok
          replace r50 : Rep K B47 (.ref p46) (enc (cutL a_row (some (a16.2 + 2)) (some (a16.2 + 3)))) := r50
          refine h_lst ?_
          refine h_cons ?_
          refine h_c ?_
          refine h_nil ?_
          refine h_newL w (ds := (([2] : List Int)).map enc) (K := K) (.cons (Rep.int _) .nil) (fun p51 B52 H53 s54 r55 => ?_) (by show 1 ≤ sizeLine; decide)
          replace m21 := m21.step s54 nm0
          replace r50 := r50.mono s54.ex
          replace st := st.go s54 go0
          replace sj7 := sj7.go s54 go0
          replace w := s54.ok
          replace r55 : Rep K B52 (.ref p51) (enc ([2] : List Int)) := r55
          obtain ⟨gd, P⟩ := P.guard
          refine h_neD (d := (enc (cutL a_row (some (a16.2 + 2)) (some (a16.2 + 3))))) (e := (enc ([2] : List Int))) w r50 r55 gd ?_
          refine h_bl ?_
          refine h_ite (fun c1 => ?_) (fun c1 => ?_)
          · replace P := P.iteT c1
            refine h_ret ?_
            refine h_c ?_
            exact (kr14 _ P.ok) _ _ _ st Rep.non
          · replace P := P.iteF c1
            refine h_next ?_
            refine h_nx ?_
            refine h_set ?_
            refine h_op ?_
            refine h_var rfl ?_
            refine h_lst ?_
            refine h_cons ?_
            refine h_c ?_
            refine h_cons ?_
            refine h_c ?_
            refine h_nil ?_
            refine h_newL w (ds := (([0, 0] : List Int)).map enc) (K := K) (.cons (Rep.int _) (.cons (Rep.int _) .nil)) (fun p56 B57 H58 s59 r60 => ?_) (by show 2 ≤ sizeLine; decide)
            replace m21 := m21.step s59 nm0
            replace st := st.go s59 go0
            replace sj7 := sj7.go s59 go0
            replace w := s59.ok
            replace r60 : Rep K B57 (.ref p56) (enc ([0, 0] : List Int)) := r60
            obtain ⟨xs62, hv, hs63, hr64⟩ := Mu.sq m21
            obtain ⟨p65, xs66, hv, hs67, hr68⟩ := Rep.sq w r60
            cases hv
            obtain ⟨gd, P⟩ := P.guard
            refine h_cat hs63 hs67 (by have g := gd; simp only [hr64.length, hr68.length, List.length_map] at g ⊢; exact Nat.le_trans g (by decide)) ?_
            refine h_nwM w (ds := ((a16.1 ++ ([0, 0] : List Int))).map enc) (K := K) (RepL.cat hr64 hr68) (fun p69 H70 hn73 s71 m72 => ?_) 
            have n74 := st.nn hn73
            have n75 := sj7.nn hn73
            have ne76 := Mu.ne m21 hn73
            replace m21 := m21.step s71 nm0
            replace st := st.go s71 go0
            replace sj7 := sj7.go s71 go0
            replace w := s71.ok
            refine h_set1 ?_
            refine h_op ?_
            refine h_var rfl ?_
            refine h_c ?_
            refine h_I0 ?_
            replace P := P.lt
            generalize hx : (a16.2 + 3) = x77 at P ⊢
            refine h_nx ?_
            exact kk13 ((a16.1 ++ ([0, 0] : List Int)), x77) _ _ ⟨_, p69, sj7, rfl, m72, n74, (.inr n75)⟩ P.ok
        · replace P := P.iteF c1
          refine h_seq ?_
          refine h_drop ?_
          refine h_bm ?_
          refine h_var rfl ?_
          refine h_bmL m21 ?_
          refine h_cons ?_
          refine h_op ?_
          refine h_var rfl ?_
          refine h_var rfl ?_
          obtain ⟨p78, xs79, hv, hs80, hr81⟩ := Rep.sq w (r_row.mono st.ex)
          cases hv
          obtain ⟨x82, hx83, P⟩ := P.ix
          obtain ⟨u84, hu, r85⟩ := RepL.atE hr81 hx83
          refine h_ixL hs80 hu ?_
          cases r85
          refine h_nil ?_
          obtain ⟨gd, P⟩ := P.guard
          refine h_append (b := x82) w m21 (Rep.int _) gd (fun H86 s87 m21 => ?_)
          replace st := st.go s87 (go1 (.inr n22))
          replace sj7 := sj7.go s87 (go1 no23)
          replace w := s87.ok
          refine h_nx ?_
          refine h_set1 ?_
          refine h_op ?_
          refine h_var rfl ?_
          refine h_c ?_
          refine h_I0 ?_
          replace P := P.lt
          generalize hx : (a16.2 + 1) = x88 at P ⊢
          refine h_nx ?_
          exact kk13 ((a16.1 ++ [x82]), x88) _ _ ⟨_, p20, sj7, rfl, m21, n22, no23⟩ P.ok
      · replace P := P.iteF c1
        exact kb15 (a16.1, a16.2) _ _ ⟨_, p20, sj7, rfl, m21, n22, no23⟩ P.ok
    · rintro a89 _ H91 ⟨B90, p93, s92, rfl, m94, n95, no96⟩ P
      replace st := st.go s92 (go1 (.inr n6))
      replace w := s92.ok
      refine h_nx ?_
      refine h_ret ?_
      refine h_var rfl ?_
      obtain ⟨B101, e97, k98, g99, r100⟩ := Mu.keep m94
      replace st := g99 _ _ _ st w0 n95
      replace w := st.ok
      replace r100 : Rep K B101 (.ref p93) (enc a89.1) := r100
      exact P.ok _ _ _ st r100
theorem ok__law_told__stuffed {f : Addr} {fd : FuncData}  (F : Fun K "_law_told" "_law_told" s__law_told__stuffed f fd) {C_NoBytes : Addr} (T_NoBytes : ExcR K mg "NoBytes" C_NoBytes) {C_NoStuffing : Addr} (T_NoStuffing : ExcR K mg "NoStuffing" C_NoStuffing) {C_ScrollError : Addr} (T_ScrollError : ExcR K mg "ScrollError" C_ScrollError) {C_NoNumber : Addr} (T_NoNumber : ExcR K mg "NoNumber" C_NoNumber) {C_NoPlace : Addr} (T_NoPlace : ExcR K mg "NoPlace" C_NoPlace) (p_NoBytes_NoBytes : PySem.W.subIn K (.ref C_NoBytes) (.ref C_NoBytes) = some true) (p_NoBytes_NoNumber : PySem.W.subIn K (.ref C_NoBytes) (.ref C_NoNumber) = some false) (p_NoBytes_NoPlace : PySem.W.subIn K (.ref C_NoBytes) (.ref C_NoPlace) = some false) (p_NoBytes_NoStuffing : PySem.W.subIn K (.ref C_NoBytes) (.ref C_NoStuffing) = some false) {f_stuffed : Addr} {d_stuffed : FuncData} (g_stuffed : mg "stuffed" = some (.ref f_stuffed)) (k_stuffed : PySem.W.keepIn K (.ref f_stuffed) = true) (b_stuffed : L2.Binds K d_stuffed ["row"] []) (G_stuffed : FnOk Pr wo K mg base (L2.CX Pr wo) 4 f_stuffed d_stuffed ["row"] (sp_stuffed K mg)) (bI_isinstance : mg "isinstance" = none) : FnOk Pr wo K mg base CX0 5 f fd ["_law_ask", "_law_row"] (sp__law_told__stuffed K f_stuffed) := by
  refine F.ok sc__law_told__stuffed (fun vs H Q E h => ?_) (fun cdv A outer s H0 vs Q E hr h => ?_)
  · obtain ⟨_, _, _, _, rfl, _⟩ := h; rfl
  · obtain ⟨B0, v_row, a_row, w, rfl, r_row, P⟩ := h
    have w0 := w
    have hu := hu_of hr
    have hu64 := hu64_of hr
    have hr4 : Room 4 _ := hr.mono (by decide)
    refine ⟨_, (pss_one (ps_tryM (K := K) (Wout := fun _ _ _ _ => False) rfl rfl takes0 (fun W pn xe tk _ => (pss_one (ps_ret (pe_tup (pa_cons pe_str (pa_cons (pe_callLS 0 G_stuffed hr4 k_stuffed b_stuffed .nil (fun σ => passAt tk σ) (pa_cons (pv 1) pa_nil)) pa_nil)))))) (.named (i := 2) sc__law_told__stuffed.nd rfl rfl (T_NoBytes.names rfl (by decide)) (fun a oe cls d pn hz hf => (pss_one (ps_ret (pe_tup (pa_cons pe_str (pa_cons (pe_isET (K := K) (a := a) (cls := cls) (d := d) rfl (fun Dc e1 e2 ec => by subst e1 e2; exact (pe_callB (r := rIsET K Dc a) (call_isET ec hz hf) (by rfl) bI_isinstance PyProof.Rows.boot_isinstance (pa_cons (pv 2) (pa_cons (pe_tup (pa_cons (pe_glob (v := .ref C_NoNumber) (by rfl) T_NoNumber.g rfl) (pa_cons (pe_glob (v := .ref C_NoPlace) (by rfl) T_NoPlace.g rfl) (pa_cons (pe_glob (v := .ref C_NoStuffing) (by rfl) T_NoStuffing.g rfl) pa_nil)))) pa_nil))))) pa_nil)))))) (.named (i := 2) sc__law_told__stuffed.nd rfl rfl (T_NoStuffing.names rfl (by decide)) (fun a oe cls d pn hz hf => (pss_one (ps_ret (pe_tup (pa_cons pe_str (pa_cons (pe_isET (K := K) (a := a) (cls := cls) (d := d) rfl (fun Dc e1 e2 ec => by subst e1 e2; exact (pe_callB (r := rIsET K Dc a) (call_isET ec hz hf) (by rfl) bI_isinstance PyProof.Rows.boot_isinstance (pa_cons (pv 2) (pa_cons (pe_tup (pa_cons (pe_glob (v := .ref C_NoNumber) (by rfl) T_NoNumber.g rfl) (pa_cons (pe_glob (v := .ref C_NoPlace) (by rfl) T_NoPlace.g rfl) (pa_cons (pe_glob (v := .ref C_NoBytes) (by rfl) T_NoBytes.g rfl) pa_nil)))) pa_nil))))) pa_nil)))))) (.plain (T_ScrollError.names rfl (by decide)) (fun a oe cls d pn hz hf => (pss_one (ps_ret (pe_tup (pa_cons pe_str (pa_cons pe_bl pa_nil)))))) .nil))))), ?_⟩
    unfold l_told__stuffed at P
    have st := Stp.refl (W := []) w
    have wj2 := w
    have sj1 := Stp.refl (W := []) w
    refine h_tryJ P (fun (a : Unit) σ' H' => ∃ (B' : Hp) (o_e : Option V), Stp [] B0 H0 B' H' ∧ σ' = [some ((.ref f_stuffed)), some (v_row), o_e]) (fun N3 T4 kk5 kr6 P => ?_) ?_
    · refine h_tryM ?_
      refine h_ret ?_
      refine h_tup ?_
      refine h_cons ?_
      refine h_c ?_
      refine h_cons ?_
      refine h_callLS rfl ?_
      refine h_cons ?_
      refine h_var rfl ?_
      refine h_nil ?_
      refine ⟨B0, v_row, a_row, w, rfl, (r_row.mono st.ex), Post.mono2 P.bind (fun e13 P => ?_) (fun x7 P => ?_)⟩
      · skip
        rintro C17 B14 H15 g s16
        replace st := st.go s16 go0
        replace sj1 := sj1.go s16 go0
        replace w := s16.ok
        obtain ⟨ec, ea⟩ := e13
        have he := P.guard.1
        replace P := P.guard.2
        obtain rfl : ec = "NoBytes" := List.mem_singleton.mp he
        obtain rfl : C_NoBytes = C17 := Value.ref.inj (Option.some.inj (T_NoBytes.g.symm.trans g))
        refine h_mixHitA T_NoBytes.toExcT p_NoBytes_NoBytes (fun ax18 haax18 => ?_)
        refine h_ret ?_
        refine h_tup ?_
        refine h_cons ?_
        refine h_c ?_
        refine h_cons ?_
        refine h_isET T_NoBytes.toExcT (h_cons (h_var rfl (h_cons (h_tup ?_))))
        refine h_cons (h_c ?_)
        refine h_cons (h_c ?_)
        refine h_cons (h_c ?_)
        refine h_nil (h_clsTup w (by show 3 ≤ sizeLine; decide) fun p21 s20 => h_nil ?_)
        refine h_isETR (.cons (.own _) (.cons (.own _) (.cons (.own _) .nil))) (kitA_f (T_NoNumber.kit p_NoBytes_NoNumber) (kitA_f (T_NoPlace.kit p_NoBytes_NoPlace) (kitA_f (T_NoStuffing.kit p_NoBytes_NoStuffing) kitA_nil))) ?_
        replace st := st.go s20 go0
        replace sj1 := sj1.go s20 go0
        replace w := s20.ok
        refine h_nil ?_
        refine h_newT w (K := K) (.cons (Rep.str _) (.cons (Rep.bl _) .nil)) (fun p22 B23 H24 s25 r26 => ?_) (by show 2 ≤ sizeLine; decide)
        replace st := st.go s25 go0
        replace sj1 := sj1.go s25 go0
        replace w := s25.ok
        replace r26 : Rep K B23 (.ref p22) (enc (⟨("bytes" : Str), false⟩ : (Tp2 Str Bool))) := r26
        exact (kr6 _ P.ok) _ _ _ st r26
      refine fun v11 B8 H9 s10 r12 => ?_
      replace st := st.go s10 go0
      replace sj1 := sj1.go s10 go0
      replace w := s10.ok
      refine h_nil ?_
      refine h_newT w (K := K) (.cons (Rep.str _) (.cons r12 .nil)) (fun p27 B28 H29 s30 r31 => ?_) (by show 2 ≤ sizeLine; decide)
      replace st := st.go s30 go0
      replace sj1 := sj1.go s30 go0
      replace w := s30.ok
      replace r31 : Rep K B28 (.ref p27) (enc (⟨("told" : Str), x7⟩ : (Tp2 Str (List Int)))) := r31
      exact (kr6 _ P.ok) _ _ _ st r31
    · rintro a32 _ H34 ⟨B33, o36, s35, rfl⟩ P
      replace st := st.go s35 go0
      replace w := s35.ok
      exact P.ok _ _ _ st Rep.non
theorem ok__law_told__unstuffed {f : Addr} {fd : FuncData}  (F : Fun K "_law_told" "_law_told" s__law_told__unstuffed f fd) {C_NoBytes : Addr} (T_NoBytes : ExcR K mg "NoBytes" C_NoBytes) {C_NoStuffing : Addr} (T_NoStuffing : ExcR K mg "NoStuffing" C_NoStuffing) {C_ScrollError : Addr} (T_ScrollError : ExcR K mg "ScrollError" C_ScrollError) {C_NoNumber : Addr} (T_NoNumber : ExcR K mg "NoNumber" C_NoNumber) {C_NoPlace : Addr} (T_NoPlace : ExcR K mg "NoPlace" C_NoPlace) (p_NoBytes_NoBytes : PySem.W.subIn K (.ref C_NoBytes) (.ref C_NoBytes) = some true) (p_NoBytes_NoNumber : PySem.W.subIn K (.ref C_NoBytes) (.ref C_NoNumber) = some false) (p_NoBytes_NoPlace : PySem.W.subIn K (.ref C_NoBytes) (.ref C_NoPlace) = some false) (p_NoBytes_NoStuffing : PySem.W.subIn K (.ref C_NoBytes) (.ref C_NoStuffing) = some false) (p_NoStuffing_NoBytes : PySem.W.subIn K (.ref C_NoStuffing) (.ref C_NoBytes) = some false) (p_NoStuffing_NoNumber : PySem.W.subIn K (.ref C_NoStuffing) (.ref C_NoNumber) = some false) (p_NoStuffing_NoPlace : PySem.W.subIn K (.ref C_NoStuffing) (.ref C_NoPlace) = some false) (p_NoStuffing_NoStuffing : PySem.W.subIn K (.ref C_NoStuffing) (.ref C_NoStuffing) = some true) {f_unstuffed : Addr} {d_unstuffed : FuncData} (g_unstuffed : mg "unstuffed" = some (.ref f_unstuffed)) (k_unstuffed : PySem.W.keepIn K (.ref f_unstuffed) = true) (b_unstuffed : L2.Binds K d_unstuffed ["row"] []) (G_unstuffed : FnOk Pr wo K mg base (L2.CX Pr wo) 4 f_unstuffed d_unstuffed ["row"] (sp_unstuffed K mg)) (bI_isinstance : mg "isinstance" = none) : FnOk Pr wo K mg base CX0 5 f fd ["_law_ask", "_law_row"] (sp__law_told__unstuffed K f_unstuffed) := by
  refine F.ok sc__law_told__unstuffed (fun vs H Q E h => ?_) (fun cdv A outer s H0 vs Q E hr h => ?_)
  · obtain ⟨_, _, _, _, rfl, _⟩ := h; rfl
  · obtain ⟨B0, v_row, a_row, w, rfl, r_row, P⟩ := h
    have w0 := w
    have hu := hu_of hr
    have hu64 := hu64_of hr
    have hr4 : Room 4 _ := hr.mono (by decide)
    refine ⟨_, (pss_one (ps_tryM (K := K) (Wout := fun _ _ _ _ => False) rfl rfl takes0 (fun W pn xe tk _ => (pss_one (ps_ret (pe_tup (pa_cons pe_str (pa_cons (pe_callLS 0 G_unstuffed hr4 k_unstuffed b_unstuffed .nil (fun σ => passAt tk σ) (pa_cons (pv 1) pa_nil)) pa_nil)))))) (.named (i := 2) sc__law_told__unstuffed.nd rfl rfl (T_NoBytes.names rfl (by decide)) (fun a oe cls d pn hz hf => (pss_one (ps_ret (pe_tup (pa_cons pe_str (pa_cons (pe_isET (K := K) (a := a) (cls := cls) (d := d) rfl (fun Dc e1 e2 ec => by subst e1 e2; exact (pe_callB (r := rIsET K Dc a) (call_isET ec hz hf) (by rfl) bI_isinstance PyProof.Rows.boot_isinstance (pa_cons (pv 2) (pa_cons (pe_tup (pa_cons (pe_glob (v := .ref C_NoNumber) (by rfl) T_NoNumber.g rfl) (pa_cons (pe_glob (v := .ref C_NoPlace) (by rfl) T_NoPlace.g rfl) (pa_cons (pe_glob (v := .ref C_NoStuffing) (by rfl) T_NoStuffing.g rfl) pa_nil)))) pa_nil))))) pa_nil)))))) (.named (i := 2) sc__law_told__unstuffed.nd rfl rfl (T_NoStuffing.names rfl (by decide)) (fun a oe cls d pn hz hf => (pss_one (ps_ret (pe_tup (pa_cons pe_str (pa_cons (pe_isET (K := K) (a := a) (cls := cls) (d := d) rfl (fun Dc e1 e2 ec => by subst e1 e2; exact (pe_callB (r := rIsET K Dc a) (call_isET ec hz hf) (by rfl) bI_isinstance PyProof.Rows.boot_isinstance (pa_cons (pv 2) (pa_cons (pe_tup (pa_cons (pe_glob (v := .ref C_NoNumber) (by rfl) T_NoNumber.g rfl) (pa_cons (pe_glob (v := .ref C_NoPlace) (by rfl) T_NoPlace.g rfl) (pa_cons (pe_glob (v := .ref C_NoBytes) (by rfl) T_NoBytes.g rfl) pa_nil)))) pa_nil))))) pa_nil)))))) (.plain (T_ScrollError.names rfl (by decide)) (fun a oe cls d pn hz hf => (pss_one (ps_ret (pe_tup (pa_cons pe_str (pa_cons pe_bl pa_nil)))))) .nil))))), ?_⟩
    unfold l_told__unstuffed at P
    have st := Stp.refl (W := []) w
    have wj2 := w
    have sj1 := Stp.refl (W := []) w
    refine h_tryJ P (fun (a : Unit) σ' H' => ∃ (B' : Hp) (o_e : Option V), Stp [] B0 H0 B' H' ∧ σ' = [some ((.ref f_unstuffed)), some (v_row), o_e]) (fun N3 T4 kk5 kr6 P => ?_) ?_
    · refine h_tryM ?_
      refine h_ret ?_
      refine h_tup ?_
      refine h_cons ?_
      refine h_c ?_
      refine h_cons ?_
      refine h_callLS rfl ?_
      refine h_cons ?_
      refine h_var rfl ?_
      refine h_nil ?_
      refine ⟨B0, v_row, a_row, w, rfl, (r_row.mono st.ex), Post.mono2 P.bind (fun e13 P => ?_) (fun x7 P => ?_)⟩
      · skip
        rintro C17 B14 H15 g s16
        replace st := st.go s16 go0
        replace sj1 := sj1.go s16 go0
        replace w := s16.ok
        obtain ⟨ec, ea⟩ := e13
        have he := P.guard.1
        replace P := P.guard.2
        by_cases hx : ec = "NoBytes"
        · subst hx
          replace P := P.iteT (decide_eq_true rfl)
          obtain rfl : C_NoBytes = C17 := Value.ref.inj (Option.some.inj (T_NoBytes.g.symm.trans g))
          refine h_mixHitA T_NoBytes.toExcT p_NoBytes_NoBytes (fun ax18 haax18 => ?_)
          refine h_ret ?_
          refine h_tup ?_
          refine h_cons ?_
          refine h_c ?_
          refine h_cons ?_
          refine h_isET T_NoBytes.toExcT (h_cons (h_var rfl (h_cons (h_tup ?_))))
          refine h_cons (h_c ?_)
          refine h_cons (h_c ?_)
          refine h_cons (h_c ?_)
          refine h_nil (h_clsTup w (by show 3 ≤ sizeLine; decide) fun p21 s20 => h_nil ?_)
          refine h_isETR (.cons (.own _) (.cons (.own _) (.cons (.own _) .nil))) (kitA_f (T_NoNumber.kit p_NoBytes_NoNumber) (kitA_f (T_NoPlace.kit p_NoBytes_NoPlace) (kitA_f (T_NoStuffing.kit p_NoBytes_NoStuffing) kitA_nil))) ?_
          replace st := st.go s20 go0
          replace sj1 := sj1.go s20 go0
          replace w := s20.ok
          refine h_nil ?_
          refine h_newT w (K := K) (.cons (Rep.str _) (.cons (Rep.bl _) .nil)) (fun p22 B23 H24 s25 r26 => ?_) (by show 2 ≤ sizeLine; decide)
          replace st := st.go s25 go0
          replace sj1 := sj1.go s25 go0
          replace w := s25.ok
          replace r26 : Rep K B23 (.ref p22) (enc (⟨("bytes" : Str), false⟩ : (Tp2 Str Bool))) := r26
          exact (kr6 _ P.ok) _ _ _ st r26
        · replace P := P.iteF (decide_eq_false hx)
          replace he := (List.mem_cons.mp he).resolve_left hx
          obtain rfl : ec = "NoStuffing" := List.mem_singleton.mp he
          obtain rfl : C_NoStuffing = C17 := Value.ref.inj (Option.some.inj (T_NoStuffing.g.symm.trans g))
          refine h_mixSkip rfl T_NoBytes.toExcT p_NoStuffing_NoBytes ?_
          refine h_mixHitA T_NoStuffing.toExcT p_NoStuffing_NoStuffing (fun ax27 haax27 => ?_)
          refine h_ret ?_
          refine h_tup ?_
          refine h_cons ?_
          refine h_c ?_
          refine h_cons ?_
          refine h_isET T_NoStuffing.toExcT (h_cons (h_var rfl (h_cons (h_tup ?_))))
          refine h_cons (h_c ?_)
          refine h_cons (h_c ?_)
          refine h_cons (h_c ?_)
          refine h_nil (h_clsTup w (by show 3 ≤ sizeLine; decide) fun p30 s29 => h_nil ?_)
          refine h_isETR (.cons (.own _) (.cons (.own _) (.cons (.own _) .nil))) (kitA_f (T_NoNumber.kit p_NoStuffing_NoNumber) (kitA_f (T_NoPlace.kit p_NoStuffing_NoPlace) (kitA_f (T_NoBytes.kit p_NoStuffing_NoBytes) kitA_nil))) ?_
          replace st := st.go s29 go0
          replace sj1 := sj1.go s29 go0
          replace w := s29.ok
          refine h_nil ?_
          refine h_newT w (K := K) (.cons (Rep.str _) (.cons (Rep.bl _) .nil)) (fun p31 B32 H33 s34 r35 => ?_) (by show 2 ≤ sizeLine; decide)
          replace st := st.go s34 go0
          replace sj1 := sj1.go s34 go0
          replace w := s34.ok
          replace r35 : Rep K B32 (.ref p31) (enc (⟨("stuffing" : Str), false⟩ : (Tp2 Str Bool))) := r35
          exact (kr6 _ P.ok) _ _ _ st r35
      refine fun v11 B8 H9 s10 r12 => ?_
      replace st := st.go s10 go0
      replace sj1 := sj1.go s10 go0
      replace w := s10.ok
      refine h_nil ?_
      refine h_newT w (K := K) (.cons (Rep.str _) (.cons r12 .nil)) (fun p36 B37 H38 s39 r40 => ?_) (by show 2 ≤ sizeLine; decide)
      replace st := st.go s39 go0
      replace sj1 := sj1.go s39 go0
      replace w := s39.ok
      replace r40 : Rep K B37 (.ref p36) (enc (⟨("told" : Str), x7⟩ : (Tp2 Str (List Int)))) := r40
      exact (kr6 _ P.ok) _ _ _ st r40
    · rintro a41 _ H43 ⟨B42, o45, s44, rfl⟩ P
      replace st := st.go s44 go0
      replace w := s44.ok
      exact P.ok _ _ _ st Rep.non
theorem ok__law_right {f : Addr} {fd : FuncData}  (F : Fun K "_law_right" "_law_right" s__law_right f fd) {f__law_unstuffed : Addr} {d__law_unstuffed : FuncData} (g__law_unstuffed : mg "_law_unstuffed" = some (.ref f__law_unstuffed)) (k__law_unstuffed : PySem.W.keepIn K (.ref f__law_unstuffed) = true) (b__law_unstuffed : L2.Binds K d__law_unstuffed ["_law_row"] []) (G__law_unstuffed : FnOk Pr wo K mg base CX0 1 f__law_unstuffed d__law_unstuffed ["_law_row"] (sp__law_unstuffed K)) {f_unstuffed : Addr} {d_unstuffed : FuncData} (g_unstuffed : mg "unstuffed" = some (.ref f_unstuffed)) (k_unstuffed : PySem.W.keepIn K (.ref f_unstuffed) = true) (b_unstuffed : L2.Binds K d_unstuffed ["row"] []) (G_unstuffed : FnOk Pr wo K mg base (L2.CX Pr wo) 4 f_unstuffed d_unstuffed ["row"] (sp_unstuffed K mg)) {f_stuffed : Addr} {d_stuffed : FuncData} (g_stuffed : mg "stuffed" = some (.ref f_stuffed)) (k_stuffed : PySem.W.keepIn K (.ref f_stuffed) = true) (b_stuffed : L2.Binds K d_stuffed ["row"] []) (G_stuffed : FnOk Pr wo K mg base (L2.CX Pr wo) 4 f_stuffed d_stuffed ["row"] (sp_stuffed K mg)) {f__law_stuffed : Addr} {d__law_stuffed : FuncData} (g__law_stuffed : mg "_law_stuffed" = some (.ref f__law_stuffed)) (k__law_stuffed : PySem.W.keepIn K (.ref f__law_stuffed) = true) (b__law_stuffed : L2.Binds K d__law_stuffed ["_law_row"] []) (G__law_stuffed : FnOk Pr wo K mg base CX0 1 f__law_stuffed d__law_stuffed ["_law_row"] (sp__law_stuffed K)) {f__law_told__unstuffed : Addr} {d__law_told__unstuffed : FuncData} (g__law_told__unstuffed : mg "_law_told" = some (.ref f__law_told__unstuffed)) (k__law_told__unstuffed : PySem.W.keepIn K (.ref f__law_told__unstuffed) = true) (b__law_told__unstuffed : L2.Binds K d__law_told__unstuffed ["_law_ask", "_law_row"] []) (G__law_told__unstuffed : FnOk Pr wo K mg base CX0 5 f__law_told__unstuffed d__law_told__unstuffed ["_law_ask", "_law_row"] (sp__law_told__unstuffed K f_unstuffed)) {f__law_told__stuffed : Addr} {d__law_told__stuffed : FuncData} (g__law_told__stuffed : mg "_law_told" = some (.ref f__law_told__stuffed)) (k__law_told__stuffed : PySem.W.keepIn K (.ref f__law_told__stuffed) = true) (b__law_told__stuffed : L2.Binds K d__law_told__stuffed ["_law_ask", "_law_row"] []) (G__law_told__stuffed : FnOk Pr wo K mg base CX0 5 f__law_told__stuffed d__law_told__stuffed ["_law_ask", "_law_row"] (sp__law_told__stuffed K f_stuffed)) (bI_list : mg "list" = none) (bI_isinstance : mg "isinstance" = none) : FnOk Pr wo K mg base CX0 6 f fd ["_law_row"] (sp__law_right K) := by
  refine F.ok sc__law_right (fun vs H Q E h => ?_) (fun cdv A outer s H0 vs Q E hr h => ?_)
  · obtain ⟨_, _, _, _, rfl, _⟩ := h; rfl
  · obtain ⟨B0, v_row, a_row, w, rfl, r_row, P⟩ := h
    have w0 := w
    have hu := hu_of hr
    have hu64 := hu64_of hr
    have hr1 : Room 1 _ := hr.mono (by decide)
    have hr4 : Room 4 _ := hr.mono (by decide)
    have hr5 : Room 5 _ := hr.mono (by decide)
    refine ⟨_, (pss_cons (ps_set (i := 1) sc__law_right.nd rfl (by first | exact Or.inl rfl | exact Or.inr rfl) (pe_callTy (r := rListY K) cr_list (by rfl) bI_list Y.boot_list (pa_cons (pv 0) pa_nil)))
      (pss_cons (ps_if (PW.pt (pw_or (pt_cmpR (r := rNeD K) (op_neD hu64) (pe_call G__law_told__stuffed hr5 rfl g__law_told__stuffed k__law_told__stuffed b__law_told__stuffed .nil pass0 (pa_cons (pe_glob (v := .ref f_stuffed) (by rfl) g_stuffed rfl) (pa_cons (pv 1) pa_nil))) (pe_tup (pa_cons pe_str (pa_cons (pe_call G__law_stuffed hr1 rfl g__law_stuffed k__law_stuffed b__law_stuffed .nil pass0 (pa_cons (pv 0) pa_nil)) pa_nil))) (nomark _)) (pw_or1 (pt_cmpR (r := rNeD K) (op_neD hu64) (pv 1) (pv 0) (nomark _))))) (pss_one (ps_ret pe_bl)) pss_nil)
      (pss_cons (ps_set (i := 2) sc__law_right.nd rfl (by first | exact Or.inl rfl | exact Or.inr rfl) (pe_call G__law_unstuffed hr1 rfl g__law_unstuffed k__law_unstuffed b__law_unstuffed .nil pass0 (pa_cons (pv 0) pa_nil)))
      (pss_cons (ps_set (i := 3) sc__law_right.nd rfl (by first | exact Or.inl rfl | exact Or.inr rfl) (pe_call G__law_told__unstuffed hr5 rfl g__law_told__unstuffed k__law_told__unstuffed b__law_told__unstuffed .nil pass0 (pa_cons (pe_glob (v := .ref f_unstuffed) (by rfl) g_unstuffed rfl) (pa_cons (pv 1) pa_nil))))
      (pss_cons (ps_if (pt_cmpR (r := rNeD K) (op_neD hu64) (pv 1) (pv 0) (nomark _)) (pss_one (ps_ret pe_bl)) pss_nil)
      (pss_cons (ps_if (pt_cmpR op_isNn (pv 2) pe_non (nomark _)) (pss_one (ps_ret (pe_cmpR (r := rEqD K) (op_eqD hu64) (pv 3) (pe_tup (pa_cons pe_str (pa_cons pe_bl pa_nil))) (nomark _)))) pss_nil)
      (pss_one (ps_ret (pe_and (pe_cmpR (r := rEqD K) (op_eqD hu64) (pv 3) (pe_tup (pa_cons pe_str (pa_cons (pv 2) pa_nil))) (nomark _)) (pe_one (pe_callB (r := rIsi K) call_isi (by rfl) bI_isinstance PyProof.Rows.boot_isinstance (pa_cons (pe_ix (r := rIxT K) ix_tup (pv 3) pe_int (fun _ _ => rfl)) (pa_cons (pe_bltn (v := .ty "list") (by rfl) bI_list Y.boot_list rfl) pa_nil))))))))))))), ?_⟩
    unfold l_right at P
    have st := Stp.refl (W := []) w
    refine h_set ?_
    refine h_cb ?_
    refine h_cons ?_
    refine h_var rfl ?_
    refine h_nil ?_
    obtain ⟨p1, xs2, rfl, hs3, hr4⟩ := Rep.sq w (r_row.mono st.ex)
    refine h_listL hs3 ?_
    refine h_nwL w (ds := (a_row).map enc) (K := K) hr4 (fun p5 B6 H7 s8 r9 => ?_) 
    replace st := st.go s8 go0
    replace w := s8.ok
    replace r9 : Rep K B6 (.ref p5) (enc a_row) := r9
    refine h_seq <| h_if ?_
    refine h_tor ?_
    refine h_test ?_
    refine h_op ?_
    refine h_call ?_
    refine h_cons ?_
    refine h_c ?_
    refine h_cons ?_
    refine h_var rfl ?_
    refine h_nil ?_
    refine ⟨B6, (.ref p5), (enc a_row), w, rfl, r9, (P.bind).mono (fun x10 P => ?_) (fun _ z => z)⟩
    refine fun v14 B11 H12 s13 r15 => ?_
    replace r9 := r9.mono s13.ex
    replace st := st.go s13 go0
    replace w := s13.ok
    refine h_tup ?_
    refine h_cons ?_
    refine h_c ?_
    refine h_cons ?_
    refine h_call ?_
    refine h_cons ?_
    refine h_var rfl ?_
    refine h_nil ?_
    refine ⟨B11, (.ref p1), a_row, w, rfl, (r_row.mono st.ex), (P.bind).mono (fun x16 P => ?_) (fun _ z => z)⟩
    refine fun v20 B17 H18 s19 r21 => ?_
    replace r9 := r9.mono s19.ex
    replace r15 := r15.mono s19.ex
    replace st := st.go s19 go0
    replace w := s19.ok
    refine h_nil ?_
    refine h_newT w (K := K) (.cons (Rep.str _) (.cons r21 .nil)) (fun p22 B23 H24 s25 r26 => ?_) (by show 2 ≤ sizeLine; decide)
    replace r9 := r9.mono s25.ex
    replace r15 := r15.mono s25.ex
    replace st := st.go s25 go0
    replace w := s25.ok
    replace r26 : Rep K B23 (.ref p22) (enc (⟨("told" : Str), x16⟩ : (Tp2 Str (List Int)))) := r26
    obtain ⟨gd, P⟩ := P.guard
    refine h_neD (d := x10) (e := (enc (⟨("told" : Str), x16⟩ : (Tp2 Str (List Int))))) w r15 r26 gd ?_
    refine h_bl ?_
    refine h_ite (fun c1 => ?_) (fun c1 => ?_)
    · replace P := P.iteT c1
      refine h_iteT ?_
      refine h_ret ?_
      refine h_c ?_
      exact P.ok _ _ _ st (Rep.bl _)
    · replace P := P.iteF c1
      refine h_test ?_
      refine h_op ?_
      refine h_var rfl ?_
      refine h_var rfl ?_
      obtain ⟨gd, P⟩ := P.guard
      refine h_neD (d := (enc a_row)) (e := (enc a_row)) w r9 (r_row.mono st.ex) gd ?_
      refine h_bl ?_
      refine h_ite (fun c1 => ?_) (fun c1 => ?_)
      · replace P := P.iteT c1
        refine h_ret ?_
        refine h_c ?_
        exact P.ok _ _ _ st (Rep.bl _)
      · replace P := P.iteF c1
        refine h_next ?_
        refine h_nx ?_
        refine h_set ?_
        refine h_call ?_
        refine h_cons ?_
        refine h_var rfl ?_
        refine h_nil ?_
        refine ⟨B23, (.ref p1), a_row, w, rfl, (r_row.mono st.ex), (P.bind).mono (fun x27 P => ?_) (fun _ z => z)⟩
        refine fun v31 B28 H29 s30 r32 => ?_
        replace r9 := r9.mono s30.ex
        replace st := st.go s30 go0
        replace w := s30.ok
        refine h_set ?_
        refine h_call ?_
        refine h_cons ?_
        refine h_c ?_
        refine h_cons ?_
        refine h_var rfl ?_
        refine h_nil ?_
        refine ⟨B28, (.ref p5), (enc a_row), w, rfl, r9, (P.bind).mono (fun x33 P => ?_) (fun _ z => z)⟩
        refine fun v37 B34 H35 s36 r38 => ?_
        replace r9 := r9.mono s36.ex
        replace r32 := r32.mono s36.ex
        replace st := st.go s36 go0
        replace w := s36.ok
        refine h_seq <| h_if ?_
        refine h_test ?_
        refine h_op ?_
        refine h_var rfl ?_
        refine h_var rfl ?_
        obtain ⟨gd, P⟩ := P.guard
        refine h_neD (d := (enc a_row)) (e := (enc a_row)) w r9 (r_row.mono st.ex) gd ?_
        refine h_bl ?_
        refine h_ite (fun c1 => ?_) (fun c1 => ?_)
        · replace P := P.iteT c1
          refine h_ret ?_
          refine h_c ?_
          exact P.ok _ _ _ st (Rep.bl _)
        · replace P := P.iteF c1
          refine h_next ?_
          refine h_nx ?_
          refine h_seq <| h_if ?_
          refine h_test ?_
          refine h_op ?_
          refine h_var rfl ?_
          refine h_c ?_
          refine h_isN r32 ?_
          refine h_bl ?_
          refine h_ite (fun c1 => ?_) (fun c1 => ?_)
          · replace P := P.iteT c1
            refine h_ret ?_
            refine h_op ?_
            refine h_var rfl ?_
            refine h_tup ?_
            refine h_cons ?_
            refine h_c ?_
            refine h_cons ?_
            refine h_c ?_
            refine h_nil ?_
            refine h_newT w (K := K) (.cons (Rep.str _) (.cons (Rep.bl _) .nil)) (fun p39 B40 H41 s42 r43 => ?_) (by show 2 ≤ sizeLine; decide)
            replace r9 := r9.mono s42.ex
            replace r32 := r32.mono s42.ex
            replace r38 := r38.mono s42.ex
            replace st := st.go s42 go0
            replace w := s42.ok
            replace r43 : Rep K B40 (.ref p39) (enc (⟨("stuffing" : Str), false⟩ : (Tp2 Str Bool))) := r43
            obtain ⟨gd, P⟩ := P.guard
            refine h_eqD (d := x33) (e := (enc (⟨("stuffing" : Str), false⟩ : (Tp2 Str Bool)))) w r38 r43 gd ?_
            exact P.ok _ _ _ st (Rep.bl _)
          · replace P := P.iteF c1
            refine h_next ?_
            refine h_nx ?_
            refine h_ret ?_
            refine h_and ?_
            refine h_op ?_
            refine h_var rfl ?_
            refine h_tup ?_
            refine h_cons ?_
            refine h_c ?_
            refine h_cons ?_
            refine h_var rfl ?_
            refine h_nil ?_
            refine h_newT w (K := K) (.cons (Rep.str _) (.cons r32 .nil)) (fun p44 B45 H46 s47 r48 => ?_) (by show 2 ≤ sizeLine; decide)
            replace r9 := r9.mono s47.ex
            replace r32 := r32.mono s47.ex
            replace r38 := r38.mono s47.ex
            replace st := st.go s47 go0
            replace w := s47.ok
            replace r48 : Rep K B45 (.ref p44) (enc (⟨("told" : Str), x27⟩ : (Tp2 Str (Option (List Int))))) := r48
            obtain ⟨gd, P⟩ := P.guard
            refine h_eqD (d := x33) (e := (enc (⟨("told" : Str), x27⟩ : (Tp2 Str (Option (List Int)))))) w r38 r48 gd ?_
            refine h_bl ?_
            refine h_ite (fun c1 => ?_) (fun c1 => ?_)
            · replace P := P.iteT c1
              refine h_cb ?_
              refine h_cons ?_
              refine h_op ?_
              refine h_var rfl ?_
              refine h_c ?_
              obtain ⟨l49, hl50, P⟩ := P.asT
              have rc51 := r38
              rw [hl50] at rc51
              obtain ⟨p52, xs53, rfl, hs54, hr55⟩ := Rep.st w rc51
              obtain ⟨x56, hx57, P⟩ := P.ix
              obtain ⟨u58, hu, r59⟩ := RepL.atE hr55 hx57
              refine h_ixT hs54 hu ?_
              refine h_cons ?_
              refine h_c ?_
              refine h_nil ?_
              refine isi (t := "list") w r59 ?_
              exact P.ok _ _ _ st (Rep.bl _)
            · replace P := P.iteF c1
              exact P.ok _ _ _ st (Rep.bl _)
theorem ok_law {f : Addr} {fd : FuncData}  (F : Fun K "law" "law" s_law f fd) {f__law_bytes : Addr} {d__law_bytes : FuncData} (g__law_bytes : mg "_law_bytes" = some (.ref f__law_bytes)) (k__law_bytes : PySem.W.keepIn K (.ref f__law_bytes) = true) (b__law_bytes : L2.Binds K d__law_bytes ["_law_state", "_law_many"] []) (G__law_bytes : FnOk Pr wo K mg base CX0 2 f__law_bytes d__law_bytes ["_law_state", "_law_many"] (sp__law_bytes K)) {f__law_stuffed : Addr} {d__law_stuffed : FuncData} (g__law_stuffed : mg "_law_stuffed" = some (.ref f__law_stuffed)) (k__law_stuffed : PySem.W.keepIn K (.ref f__law_stuffed) = true) (b__law_stuffed : L2.Binds K d__law_stuffed ["_law_row"] []) (G__law_stuffed : FnOk Pr wo K mg base CX0 1 f__law_stuffed d__law_stuffed ["_law_row"] (sp__law_stuffed K)) {f__law_digit : Addr} {d__law_digit : FuncData} (g__law_digit : mg "_law_digit" = some (.ref f__law_digit)) (k__law_digit : PySem.W.keepIn K (.ref f__law_digit) = true) (b__law_digit : L2.Binds K d__law_digit ["_law_state", "_law_base"] []) (G__law_digit : FnOk Pr wo K mg base CX0 1 f__law_digit d__law_digit ["_law_state", "_law_base"] (sp__law_digit K)) {f__law_odd_row : Addr} {d__law_odd_row : FuncData} (g__law_odd_row : mg "_law_odd_row" = some (.ref f__law_odd_row)) (k__law_odd_row : PySem.W.keepIn K (.ref f__law_odd_row) = true) (b__law_odd_row : L2.Binds K d__law_odd_row ["_law_state", "_law_row"] []) (G__law_odd_row : FnOk Pr wo K mg base CX0 2 f__law_odd_row d__law_odd_row ["_law_state", "_law_row"] (sp__law_odd_row K)) {f_unstuffed : Addr} {d_unstuffed : FuncData} (g_unstuffed : mg "unstuffed" = some (.ref f_unstuffed)) (k_unstuffed : PySem.W.keepIn K (.ref f_unstuffed) = true) (b_unstuffed : L2.Binds K d_unstuffed ["row"] []) (G_unstuffed : FnOk Pr wo K mg base (L2.CX Pr wo) 4 f_unstuffed d_unstuffed ["row"] (sp_unstuffed K mg)) {f__law_right : Addr} {d__law_right : FuncData} (g__law_right : mg "_law_right" = some (.ref f__law_right)) (k__law_right : PySem.W.keepIn K (.ref f__law_right) = true) (b__law_right : L2.Binds K d__law_right ["_law_row"] []) (G__law_right : FnOk Pr wo K mg base CX0 6 f__law_right d__law_right ["_law_row"] (sp__law_right K)) {f_stuffed : Addr} {d_stuffed : FuncData} (g_stuffed : mg "stuffed" = some (.ref f_stuffed)) (k_stuffed : PySem.W.keepIn K (.ref f_stuffed) = true) (b_stuffed : L2.Binds K d_stuffed ["row"] []) (G_stuffed : FnOk Pr wo K mg base (L2.CX Pr wo) 4 f_stuffed d_stuffed ["row"] (sp_stuffed K mg)) {f__law_told__stuffed : Addr} {d__law_told__stuffed : FuncData} (g__law_told__stuffed : mg "_law_told" = some (.ref f__law_told__stuffed)) (k__law_told__stuffed : PySem.W.keepIn K (.ref f__law_told__stuffed) = true) (b__law_told__stuffed : L2.Binds K d__law_told__stuffed ["_law_ask", "_law_row"] []) (G__law_told__stuffed : FnOk Pr wo K mg base CX0 5 f__law_told__stuffed d__law_told__stuffed ["_law_ask", "_law_row"] (sp__law_told__stuffed K f_stuffed)) {f__law_told__unstuffed : Addr} {d__law_told__unstuffed : FuncData} (g__law_told__unstuffed : mg "_law_told" = some (.ref f__law_told__unstuffed)) (k__law_told__unstuffed : PySem.W.keepIn K (.ref f__law_told__unstuffed) = true) (b__law_told__unstuffed : L2.Binds K d__law_told__unstuffed ["_law_ask", "_law_row"] []) (G__law_told__unstuffed : FnOk Pr wo K mg base CX0 5 f__law_told__unstuffed d__law_told__unstuffed ["_law_ask", "_law_row"] (sp__law_told__unstuffed K f_unstuffed)) (bI_range : mg "range" = none) (bI_len : mg "len" = none) : FnOk Pr wo K mg base CX0 7 f fd ["_law_script"] (sp_law K) := by
  refine F.ok sc_law (fun vs H Q E h => ?_) (fun cdv A outer s H0 vs Q E hr h => ?_)
  · obtain ⟨_, _, _, _, rfl, _⟩ := h; rfl
  · obtain ⟨B0, v_script, a_script, w, rfl, r_script, P⟩ := h
    have w0 := w
    have hu := hu_of hr
    have hu64 := hu64_of hr
    have hr1 : Room 1 _ := hr.mono (by decide)
    have hr2 : Room 2 _ := hr.mono (by decide)
    have hr4 : Room 4 _ := hr.mono (by decide)
    have hr5 : Room 5 _ := hr.mono (by decide)
    have hr6 : Room 6 _ := hr.mono (by decide)
    refine ⟨_, (pss_cons (ps_for PassesOwn.never rfl (pi_list (pe_op (r := rCatQ K) op_catQ (pe_slice (r := rSlQ K) sl_Q (pv 0) po_none (po_some pe_int)) (pe_lst (pa_cons pe_int (pa_cons pe_int pa_nil))))) (pg_name (i := 1) sc_law.nd rfl (by first | exact Or.inl rfl | exact Or.inr rfl)) (pss_cons (ps_set (i := 2) sc_law.nd rfl (by first | exact Or.inl rfl | exact Or.inr rfl) (pe_lst (pa_cons (pv 1) pa_nil)))
      (pss_cons (ps_set (i := 3) sc_law.nd rfl (by first | exact Or.inl rfl | exact Or.inr rfl) (pe_call G__law_bytes hr2 rfl g__law_bytes k__law_bytes b__law_bytes .nil pass0 (pa_cons (pv 2) (pa_cons (pe_call G__law_digit hr1 rfl g__law_digit k__law_digit b__law_digit .nil pass0 (pa_cons (pv 2) (pa_cons pe_int pa_nil))) pa_nil))))
      (pss_cons (ps_if (pt_cmpR op_eq (pe_call G__law_digit hr1 rfl g__law_digit k__law_digit b__law_digit .nil pass0 (pa_cons (pv 2) (pa_cons pe_int pa_nil))) pe_int (nomark _)) (pss_one (ps_set (i := 3) sc_law.nd rfl (by first | exact Or.inl rfl | exact Or.inr rfl) (pe_op (r := rRepQ K) op_repQ (pe_lst (pa_cons pe_int pa_nil)) (pe_call G__law_digit hr1 rfl g__law_digit k__law_digit b__law_digit .nil pass0 (pa_cons (pv 2) (pa_cons pe_int pa_nil)))))) pss_nil)
      (pss_cons (ps_set (i := 4) sc_law.nd rfl (by first | exact Or.inl rfl | exact Or.inr rfl) (pe_call G__law_stuffed hr1 rfl g__law_stuffed k__law_stuffed b__law_stuffed .nil pass0 (pa_cons (pv 3) pa_nil)))
      (pss_cons (ps_for PassesOwn.never rfl (pi_range1 (by rfl) bI_range (pa_cons (pe_op op_sub (pe_callB (r := rLenY K) cr_len (by rfl) bI_len PySem.boot_len (pa_cons (pv 4) pa_nil)) pe_int) pa_nil)) (pg_name (i := 5) sc_law.nd rfl (by first | exact Or.inl rfl | exact Or.inr rfl)) (pss_one (ps_if (pt_cmpR (r := rEqD K) (op_eqD hu64) (pe_slice (r := rSlQ K) sl_Q (pv 4) (po_some (pv 5)) (po_some (pe_op op_add (pv 5) pe_int))) (pe_lst (pa_cons pe_int (pa_cons pe_int (pa_cons pe_int pa_nil)))) (nomark _)) (pss_one (ps_ret pe_bl)) pss_nil)))
      (pss_cons (ps_set (i := 5) sc_law.nd rfl (by first | exact Or.inl rfl | exact Or.inr rfl) (pe_call G__law_digit hr1 rfl g__law_digit k__law_digit b__law_digit .nil pass0 (pa_cons (pv 2) (pa_cons (pe_op op_add (pe_callB (r := rLenY K) cr_len (by rfl) bI_len PySem.boot_len (pa_cons (pv 4) pa_nil)) pe_int) pa_nil))))
      (pss_cons (ps_set (i := 6) sc_law.nd rfl (by first | exact Or.inl rfl | exact Or.inr rfl) (pe_ix (r := rIxL K) ix_list (pe_lst (pa_cons pe_int (pa_cons pe_int (pa_cons pe_int (pa_cons (pe_call G__law_digit hr1 rfl g__law_digit k__law_digit b__law_digit .nil pass0 (pa_cons (pv 2) (pa_cons pe_int pa_nil))) pa_nil))))) (pe_call G__law_digit hr1 rfl g__law_digit k__law_digit b__law_digit .nil pass0 (pa_cons (pv 2) (pa_cons pe_int pa_nil))) (fun _ _ => rfl)))
      (pss_cons (ps_set (i := 7) sc_law.nd rfl (by first | exact Or.inl rfl | exact Or.inr rfl) (pe_lst (pa_cons (pv 3) (pa_cons (pv 4) (pa_cons (pe_op (r := rCatQ K) op_catQ (pe_slice (r := rSlQ K) sl_Q (pv 4) po_none (po_some (pv 5))) (pe_slice (r := rSlQ K) sl_Q (pv 4) (po_some (pe_op op_add (pv 5) pe_int)) po_none)) (pa_cons (pe_op (r := rCatQ K) op_catQ (pe_op (r := rCatQ K) op_catQ (pe_slice (r := rSlQ K) sl_Q (pv 4) po_none (po_some (pv 5))) (pe_lst (pa_cons (pv 6) pa_nil))) (pe_slice (r := rSlQ K) sl_Q (pv 4) (po_some (pe_op op_add (pv 5) pe_int)) po_none)) pa_nil))))))
      (pss_cons (ps_set (i := 7) sc_law.nd rfl (by first | exact Or.inl rfl | exact Or.inr rfl) (pe_op (r := rCatQ K) op_catQ (pv 7) (pe_lst (pa_cons (pe_op (r := rCatQ K) op_catQ (pe_op (r := rCatQ K) op_catQ (pe_slice (r := rSlQ K) sl_Q (pv 4) po_none (po_some (pv 5))) (pe_lst (pa_cons (pv 6) pa_nil))) (pe_slice (r := rSlQ K) sl_Q (pv 4) (po_some (pv 5)) po_none)) (pa_cons (pe_slice (r := rSlQ K) sl_Q (pv 4) po_none (po_some (pv 5))) (pa_cons (pv 3) pa_nil))))))
      (pss_cons (ps_for PassesOwn.never rfl (pi_list (pv 7)) (pg_name (i := 8) sc_law.nd rfl (by first | exact Or.inl rfl | exact Or.inr rfl)) (pss_one (ps_if (pt_not (pt_val (pe_call G__law_right hr6 rfl g__law_right k__law_right b__law_right .nil pass0 (pa_cons (pv 8) pa_nil)))) (pss_one (ps_ret pe_bl)) pss_nil)))
      (pss_cons (ps_if (pt_cmpR (r := rNeD K) (op_neD hu64) (pe_call G_unstuffed hr4 rfl g_unstuffed k_unstuffed b_unstuffed .nil passL (pa_cons (pe_call G_stuffed hr4 rfl g_stuffed k_stuffed b_stuffed .nil passL (pa_cons (pv 3) pa_nil)) pa_nil)) (pv 3) (nomark _)) (pss_one (ps_ret pe_bl)) pss_nil)
      (pss_cons (ps_set (i := 9) sc_law.nd rfl (by first | exact Or.inl rfl | exact Or.inr rfl) (pe_call G__law_odd_row hr2 rfl g__law_odd_row k__law_odd_row b__law_odd_row .nil pass0 (pa_cons (pv 2) (pa_cons (pv 3) pa_nil))))
      (pss_one (ps_if (PW.pt (pw_or (pt_cmpR (r := rNeD K) (op_neD hu64) (pe_call G__law_told__stuffed hr5 rfl g__law_told__stuffed k__law_told__stuffed b__law_told__stuffed .nil pass0 (pa_cons (pe_glob (v := .ref f_stuffed) (by rfl) g_stuffed rfl) (pa_cons (pv 9) pa_nil))) (pe_tup (pa_cons pe_str (pa_cons pe_bl pa_nil))) (nomark _)) (pw_or1 (pt_cmpR (r := rNeD K) (op_neD hu64) (pe_call G__law_told__unstuffed hr5 rfl g__law_told__unstuffed k__law_told__unstuffed b__law_told__unstuffed .nil pass0 (pa_cons (pe_glob (v := .ref f_unstuffed) (by rfl) g_unstuffed rfl) (pa_cons (pv 9) pa_nil))) (pe_tup (pa_cons pe_str (pa_cons pe_bl pa_nil))) (nomark _))))) (pss_one (ps_ret pe_bl)) pss_nil)))))))))))))))
      (pss_one (ps_ret pe_bl))), ?_⟩
    unfold m_law at P
    have st := Stp.refl (W := []) w
    refine h_seq ?_
    refine h_forE ?_
    refine h_op ?_
    refine h_sl ?_
    refine h_var rfl ?_
    refine h_nopart ?_
    refine h_part ?_
    refine h_c ?_
    refine h_isI ?_
    obtain ⟨p1, xs2, rfl, hs3, hr4⟩ := Bor.sq (r_script.step st)
    refine h_slQ hs3 ?_
    refine h_nwL w (ds := ((cutL a_script none (some 12))).map enc) (K := K) (hr4.cut none (some 12)) (fun p5 B6 H7 s8 r9 => ?_) 
    replace st := st.go s8 go0
    replace w := s8.ok
    replace r9 : Rep K B6 (.ref p5) (enc (cutL a_script none (some 12))) := r9
    refine h_lst ?_
    refine h_cons ?_
    refine h_c ?_
    refine h_cons ?_
    refine h_c ?_
    refine h_nil ?_
    refine h_newL w (ds := (([0, 1] : List Int)).map enc) (K := K) (.cons (Rep.int _) (.cons (Rep.int _) .nil)) (fun p10 B11 H12 s13 r14 => ?_) (by show 2 ≤ sizeLine; decide)
    replace r9 := r9.mono s13.ex
    replace st := st.go s13 go0
    replace w := s13.ok
    replace r14 : Rep K B11 (.ref p10) (enc ([0, 1] : List Int)) := r14
    obtain ⟨p15, xs16, hv, hs17, hr18⟩ := Rep.sq w r9
    cases hv
    obtain ⟨p19, xs20, hv, hs21, hr22⟩ := Rep.sq w r14
    cases hv
    obtain ⟨gd, P⟩ := P.guard
    refine h_cat hs17 hs21 (by have g := gd; simp only [hr18.length, hr22.length, List.length_map] at g ⊢; exact Nat.le_trans g (by decide)) ?_
    refine h_nwL w (ds := (((cutL a_script none (some 12)) ++ ([0, 1] : List Int))).map enc) (K := K) (RepL.cat hr18 hr22) (fun p23 B24 H25 s26 r27 => ?_) 
    replace st := st.go s26 go0
    replace w := s26.ok
    replace r27 : Rep K B24 (.ref p23) (enc ((cutL a_script none (some 12)) ++ ([0, 1] : List Int))) := r27
    obtain ⟨p28, xs29, hv, hb30, hr31⟩ := Rep.sqB r27
    cases hv
    have wj33 := w
    have sj32 := Stp.refl (W := []) w
    refine h_forL P (w.l hb30) hr31 (fun (a : Unit) σ' H' => ∃ (B' : Hp) (o__law_state : Option V) (o__law_row : Option V) (o__law_there : Option V) (o__law_at : Option V) (o__law_byte : Option V) (o__law_rows : Option V) (o__law_some : Option V) (o__law_odd : Option V) (o__law_cell : Option V), Stp [] B24 H25 B' H' ∧ σ' = [some ((.ref p1)), o__law_cell, o__law_state, o__law_row, o__law_there, o__law_at, o__law_byte, o__law_rows, o__law_some, o__law_odd]) ⟨_, _, _, _, _, _, _, _, _, _, sj32, rfl⟩ (fun _ _ _ j => ?_) ?_ ?_
    · obtain ⟨B43, o46, o47, o48, o49, o50, o51, o52, o53, o54, s45, rfl⟩ := j
      exact s45.ok.l (s45.ex.l hb30)
    · rintro N34 T35 x40 v41 a39 _ H44 ⟨B43, o46, o47, o48, o49, o50, o51, o52, o53, o54, s45, rfl⟩ r42 kk36 kr37 kb38 P
      replace st := st.go s45 go0
      replace w := s45.ok
      have sj32 := s45
      replace r42 := r42.mono sj32.ex
      cases r42
      refine h_gname ?_
      refine h_set ?_
      refine h_lst ?_
      refine h_cons ?_
      refine h_var rfl ?_
      refine h_nil ?_
      refine h_newM w (ds := (([x40] : List Int)).map enc) (K := K) (.cons (Rep.int _) .nil) (fun p55 H56 hn59 s57 m58 => ?_) (by show 1 ≤ sizeLine; decide)
      have n60 := st.nn hn59
      have n61 := sj32.nn hn59
      replace st := st.go s57 go0
      replace sj32 := sj32.go s57 go0
      replace w := s57.ok
      refine h_set ?_
      refine h_call ?_
      refine h_cons ?_
      refine h_var rfl ?_
      refine h_cons ?_
      refine h_call ?_
      refine h_cons ?_
      refine h_var rfl ?_
      refine h_cons ?_
      refine h_c ?_
      refine h_nil ?_
      refine ⟨B43, p55, ([x40] : List Int), 31, w, rfl, m58, (P.bind).mono (fun x62 P => ?_) (fun _ z => z)⟩
      refine fun v66 B63 H64 s65 m58 r67 => ?_
      replace st := st.go s65 (go1 (.inr n60))
      replace sj32 := sj32.go s65 (go1 (.inr n61))
      replace w := s65.ok
      cases r67
      refine h_nil ?_
      refine ⟨B63, p55, x62.2, x62.1, w, rfl, m58, (P.bind).mono (fun x68 P => ?_) (fun _ z => z)⟩
      refine fun v72 B69 H70 s71 m58 r73 => ?_
      replace st := st.go s71 (go1 (.inr n60))
      replace sj32 := sj32.go s71 (go1 (.inr n61))
      replace w := s71.ok
      have wj75 := w
      have sj74 := Stp.refl (W := [p55]) w
      refine h_joinS P (fun (a : (List Int) × (List Int)) σ' H' => ∃ (B' : Hp) (v0 : V), Stp [p55] B69 H70 B' H' ∧ σ' = [some ((.ref p1)), some (.int x40), some ((.ref p55)), some v0, o48, o49, o50, o51, o52, o53] ∧ Rep K B' v0 (enc a.1) ∧ Mu K B' H' p55 (a.2.map enc)) (fun N kk76 P => h_if ?_) ?_
      · skip
        refine h_test ?_
        refine h_op ?_
        refine h_call ?_
        refine h_cons ?_
        refine h_var rfl ?_
        refine h_cons ?_
        refine h_c ?_
        refine h_nil ?_
        refine ⟨B69, p55, x68.2, 5, w, rfl, m58, (P.bind).mono (fun x77 P => ?_) (fun _ z => z)⟩
        refine fun v81 B78 H79 s80 m58 r82 => ?_
        replace r73 := r73.mono s80.ex
        replace st := st.go s80 (go1 (.inr n60))
        replace sj32 := sj32.go s80 (go1 (.inr n61))
        replace sj74 := sj74.go s80 (go1 (.inl (by simp)))
        replace w := s80.ok
        cases r82
        refine h_c ?_
        refine h_eqI ?_
        refine h_bl ?_
        refine h_ite (fun c1 => ?_) (fun c1 => ?_)
        · replace P := P.iteT c1
          refine h_set1 ?_
          refine h_op ?_
          refine h_lst ?_
          refine h_cons ?_
          refine h_c ?_
          refine h_nil ?_
          refine h_newL w (ds := (([0] : List Int)).map enc) (K := K) (.cons (Rep.int _) .nil) (fun p83 B84 H85 s86 r87 => ?_) (by show 1 ≤ sizeLine; decide)
          replace m58 := m58.step s86 nm0
          replace r73 := r73.mono s86.ex
          replace st := st.go s86 go0
          replace sj32 := sj32.go s86 go0
          replace sj74 := sj74.go s86 go0
          replace w := s86.ok
          replace r87 : Rep K B84 (.ref p83) (enc ([0] : List Int)) := r87
          refine h_call ?_
          refine h_cons ?_
          refine h_var rfl ?_
          refine h_cons ?_
          refine h_c ?_
          refine h_nil ?_
          refine ⟨B84, p55, x77.2, 40, w, rfl, m58, (P.bind).mono (fun x88 P => ?_) (fun _ z => z)⟩
          refine fun v92 B89 H90 s91 m58 r93 => ?_
          replace r73 := r73.mono s91.ex
          replace r87 := r87.mono s91.ex
          replace st := st.go s91 (go1 (.inr n60))
          replace sj32 := sj32.go s91 (go1 (.inr n61))
          replace sj74 := sj74.go s91 (go1 (.inl (by simp)))
          replace w := s91.ok
          cases r93
          obtain ⟨p94, xs95, hv, hs96, hr97⟩ := Rep.sq w r87
          cases hv
          obtain ⟨gd, P⟩ := P.guard
          refine h_repQ hs96 (hr97.length.trans (List.length_map ..)) gd ?_
          refine h_nwL w (ds := ((timesL ([0] : List Int) x88.1)).map enc) (K := K) (RepL.times hr97 x88.1) (fun p98 B99 H100 s101 r102 => ?_) 
          replace m58 := m58.step s101 nm0
          replace r73 := r73.mono s101.ex
          replace st := st.go s101 go0
          replace sj32 := sj32.go s101 go0
          replace sj74 := sj74.go s101 go0
          replace w := s101.ok
          replace r102 : Rep K B99 (.ref p98) (enc (timesL ([0] : List Int) x88.1)) := r102
          refine h_nx ?_
          exact kk76 ((timesL ([0] : List Int) x88.1), x88.2) _ _ ⟨_, (.ref p98), sj74, rfl, r102, m58⟩ P.ok
        · replace P := P.iteF c1
          refine h_next ?_
          refine h_nx ?_
          exact kk76 (x68.1, x77.2) _ _ ⟨_, v72, sj74, rfl, r73, m58⟩ P.ok
      rintro a103 _ H105 ⟨B104, v107, s106, rfl, r108, m58⟩ P
      replace st := st.go s106 (go1 (.inr n60))
      replace sj32 := sj32.go s106 (go1 (.inr n61))
      replace w := s106.ok
      refine h_set ?_
      refine h_call ?_
      refine h_cons ?_
      refine h_var rfl ?_
      refine h_nil ?_
      refine ⟨B104, v107, a103.1, w, rfl, r108, (P.bind).mono (fun x109 P => ?_) (fun _ z => z)⟩
      refine fun v113 B110 H111 s112 r114 => ?_
      replace m58 := m58.step s112 nm0
      replace r108 := r108.mono s112.ex
      replace st := st.go s112 go0
      replace sj32 := sj32.go s112 go0
      replace w := s112.ok
      refine h_seq ?_
      refine h_rng1 ?_
      refine h_cons ?_
      refine h_op ?_
      refine h_cb ?_
      refine h_cons ?_
      refine h_var rfl ?_
      refine h_nil ?_
      obtain ⟨p115, xs116, rfl, hs117, hr118⟩ := Rep.sq w r114
      refine h_len hs117 hr118 ?_
      refine h_c ?_
      refine h_I0 ?_
      refine h_nil ?_
      obtain ⟨gz119, P⟩ := P.guard
      have wj121 := w
      have sj120 := Stp.refl (W := []) w
      refine h_forR1 P gz119 (fun (a : Unit) σ' H' => ∃ (B' : Hp) (o__law_at : Option V), Stp [] B110 H111 B' H' ∧ σ' = [some ((.ref p1)), some (.int x40), some ((.ref p55)), some (v107), some ((.ref p115)), o__law_at, o50, o51, o52, o53]) ⟨_, _, sj120, rfl⟩ ?_ ?_
      · rintro N122 T123 x128 a127 _ H132 ⟨B131, o134, s133, rfl⟩ hlox128 hhix128 kk124 kr125 kb126 P
        replace m58 := m58.step s133 nm0
        replace r108 := r108.mono s133.ex
        replace r114 := r114.mono s133.ex
        replace st := st.go s133 go0
        replace sj32 := sj32.go s133 go0
        replace w := s133.ok
        have sj120 := s133
        refine h_gname ?_
        refine h_if ?_
        refine h_test ?_
        refine h_op ?_
        refine h_sl ?_
        refine h_var rfl ?_
        refine h_part ?_
        refine h_var rfl ?_
        refine h_isI ?_
        refine h_part ?_
        refine h_op ?_
        refine h_var rfl ?_
        refine h_c ?_
        refine h_I0 ?_
        refine h_isI ?_
        obtain ⟨p135, xs136, hv, hs137, hr138⟩ := Rep.sq w r114
        cases hv
        refine h_slQ hs137 ?_
        refine h_nwL w (ds := ((cutL x109 (some x128) (some (x128 + 3)))).map enc) (K := K) (hr138.cut (some x128) (some (x128 + 3))) (fun p139 B140 H141 s142 r143 => ?_) 
        replace m58 := m58.step s142 nm0
        replace r108 := r108.mono s142.ex
        replace r114 := r114.mono s142.ex
        replace st := st.go s142 go0
        replace sj32 := sj32.go s142 go0
        replace sj120 := sj120.go s142 go0
        replace w := s142.ok
        replace r143 : Rep K B140 (.ref p139) (enc (cutL x109 (some x128) (some (x128 + 3)))) := r143
        refine h_lst ?_
        refine h_cons ?_
        refine h_c ?_
        refine h_cons ?_
        refine h_c ?_
        refine h_cons ?_
        refine h_c ?_
        refine h_nil ?_
        refine h_newL w (ds := (([0, 0, 1] : List Int)).map enc) (K := K) (.cons (Rep.int _) (.cons (Rep.int _) (.cons (Rep.int _) .nil))) (fun p144 B145 H146 s147 r148 => ?_) (by show 3 ≤ sizeLine; decide)
        replace m58 := m58.step s147 nm0
        replace r108 := r108.mono s147.ex
        replace r114 := r114.mono s147.ex
        replace r143 := r143.mono s147.ex
        replace st := st.go s147 go0
        replace sj32 := sj32.go s147 go0
        replace sj120 := sj120.go s147 go0
        replace w := s147.ok
        replace r148 : Rep K B145 (.ref p144) (enc ([0, 0, 1] : List Int)) := r148
        obtain ⟨gd, P⟩ := P.guard
        refine h_eqD (d := (enc (cutL x109 (some x128) (some (x128 + 3))))) (e := (enc ([0, 0, 1] : List Int))) w r143 r148 gd ?_
        refine h_bl ?_
        refine h_ite (fun c1 => ?_) (fun c1 => ?_)
        · replace P := P.iteT c1
          refine h_ret ?_
          refine h_c ?_
          exact (kr37 _ (kr125 _ P.ok)) _ _ _ st (Rep.bl _)
        · replace P := P.iteF c1
          refine h_next ?_
          refine h_nx ?_
          exact kk124 () _ _ ⟨_, _, sj120, rfl⟩ P.ok
      · rintro a149 _ H151 ⟨B150, o153, s152, rfl⟩ P
        replace m58 := m58.step s152 nm0
        replace r108 := r108.mono s152.ex
        replace r114 := r114.mono s152.ex
        replace st := st.go s152 go0
        replace sj32 := sj32.go s152 go0
        replace w := s152.ok
        refine h_nx ?_
        refine h_set ?_
        refine h_call ?_
        refine h_cons ?_
        refine h_var rfl ?_
        refine h_cons ?_
        refine h_op ?_
        refine h_cb ?_
        refine h_cons ?_
        refine h_var rfl ?_
        refine h_nil ?_
        obtain ⟨p154, xs155, hv, hs156, hr157⟩ := Rep.sq w r114
        cases hv
        refine h_len hs156 hr157 ?_
        refine h_c ?_
        refine h_I0 ?_
        refine h_nil ?_
        refine ⟨B150, p55, a103.2, ((x109.length : Int) + 1), w, rfl, m58, (P.bind).mono (fun x158 P => ?_) (fun _ z => z)⟩
        refine fun v162 B159 H160 s161 m58 r163 => ?_
        replace r108 := r108.mono s161.ex
        replace r114 := r114.mono s161.ex
        replace st := st.go s161 (go1 (.inr n60))
        replace sj32 := sj32.go s161 (go1 (.inr n61))
        replace w := s161.ok
        cases r163
        refine h_set ?_
        refine h_op ?_
        refine h_lst ?_
        refine h_cons ?_
        refine h_c ?_
        refine h_cons ?_
        refine h_c ?_
        refine h_cons ?_
        refine h_c ?_
        refine h_cons ?_
        refine h_call ?_
        refine h_cons ?_
        refine h_var rfl ?_
        refine h_cons ?_
        refine h_c ?_
        refine h_nil ?_
        refine ⟨B159, p55, x158.2, 256, w, rfl, m58, (P.bind).mono (fun x164 P => ?_) (fun _ z => z)⟩
        refine fun v168 B165 H166 s167 m58 r169 => ?_
        replace r108 := r108.mono s167.ex
        replace r114 := r114.mono s167.ex
        replace st := st.go s167 (go1 (.inr n60))
        replace sj32 := sj32.go s167 (go1 (.inr n61))
        replace w := s167.ok
        cases r169
        refine h_nil ?_
        refine h_newL w (ds := (([0, 2, 1, x164.1] : List Int)).map enc) (K := K) (.cons (Rep.int _) (.cons (Rep.int _) (.cons (Rep.int _) (.cons (Rep.int _) .nil)))) (fun p170 B171 H172 s173 r174 => ?_) (by show 4 ≤ sizeLine; decide)
        replace m58 := m58.step s173 nm0
        replace r108 := r108.mono s173.ex
        replace r114 := r114.mono s173.ex
        replace st := st.go s173 go0
        replace sj32 := sj32.go s173 go0
        replace w := s173.ok
        replace r174 : Rep K B171 (.ref p170) (enc ([0, 2, 1, x164.1] : List Int)) := r174
        refine h_call ?_
        refine h_cons ?_
        refine h_var rfl ?_
        refine h_cons ?_
        refine h_c ?_
        refine h_nil ?_
        refine ⟨B171, p55, x164.2, 4, w, rfl, m58, (P.bind).mono (fun x175 P => ?_) (fun _ z => z)⟩
        refine fun v179 B176 H177 s178 m58 r180 => ?_
        replace r108 := r108.mono s178.ex
        replace r114 := r114.mono s178.ex
        replace r174 := r174.mono s178.ex
        replace st := st.go s178 (go1 (.inr n60))
        replace sj32 := sj32.go s178 (go1 (.inr n61))
        replace w := s178.ok
        cases r180
        obtain ⟨p181, xs182, hv, hs183, hr184⟩ := Rep.sq w r174
        cases hv
        obtain ⟨x185, hx186, P⟩ := P.ix
        obtain ⟨u187, hu, r188⟩ := RepL.atE hr184 hx186
        refine h_ixL hs183 hu ?_
        cases r188
        refine h_set ?_
        refine h_lst ?_
        refine h_cons ?_
        refine h_var rfl ?_
        refine h_cons ?_
        refine h_var rfl ?_
        refine h_cons ?_
        refine h_op ?_
        refine h_sl ?_
        refine h_var rfl ?_
        refine h_nopart ?_
        refine h_part ?_
        refine h_var rfl ?_
        refine h_isI ?_
        obtain ⟨p189, xs190, hv, hs191, hr192⟩ := Rep.sq w r114
        cases hv
        refine h_slQ hs191 ?_
        refine h_nwL w (ds := ((cutL x109 none (some x158.1))).map enc) (K := K) (hr192.cut none (some x158.1)) (fun p193 B194 H195 s196 r197 => ?_) 
        replace m58 := m58.step s196 nm0
        replace r108 := r108.mono s196.ex
        replace r114 := r114.mono s196.ex
        replace st := st.go s196 go0
        replace sj32 := sj32.go s196 go0
        replace w := s196.ok
        replace r197 : Rep K B194 (.ref p193) (enc (cutL x109 none (some x158.1))) := r197
        refine h_sl ?_
        refine h_var rfl ?_
        refine h_part ?_
        refine h_op ?_
        refine h_var rfl ?_
        refine h_c ?_
        refine h_I0 ?_
        refine h_isI ?_
        refine h_nopart ?_
        obtain ⟨p198, xs199, hv, hs200, hr201⟩ := Rep.sq w r114
        cases hv
        refine h_slQ hs200 ?_
        refine h_nwL w (ds := ((cutL x109 (some (x158.1 + 1)) none)).map enc) (K := K) (hr201.cut (some (x158.1 + 1)) none) (fun p202 B203 H204 s205 r206 => ?_) 
        replace m58 := m58.step s205 nm0
        replace r108 := r108.mono s205.ex
        replace r114 := r114.mono s205.ex
        replace r197 := r197.mono s205.ex
        replace st := st.go s205 go0
        replace sj32 := sj32.go s205 go0
        replace w := s205.ok
        replace r206 : Rep K B203 (.ref p202) (enc (cutL x109 (some (x158.1 + 1)) none)) := r206
        obtain ⟨p207, xs208, hv, hs209, hr210⟩ := Rep.sq w r197
        cases hv
        obtain ⟨p211, xs212, hv, hs213, hr214⟩ := Rep.sq w r206
        cases hv
        obtain ⟨gd, P⟩ := P.guard
        refine h_cat hs209 hs213 (by have g := gd; simp only [hr210.length, hr214.length, List.length_map] at g ⊢; exact Nat.le_trans g (by decide)) ?_
        refine h_nwL w (ds := (((cutL x109 none (some x158.1)) ++ (cutL x109 (some (x158.1 + 1)) none))).map enc) (K := K) (RepL.cat hr210 hr214) (fun p215 B216 H217 s218 r219 => ?_) 
        replace m58 := m58.step s218 nm0
        replace r108 := r108.mono s218.ex
        replace r114 := r114.mono s218.ex
        replace st := st.go s218 go0
        replace sj32 := sj32.go s218 go0
        replace w := s218.ok
        replace r219 : Rep K B216 (.ref p215) (enc ((cutL x109 none (some x158.1)) ++ (cutL x109 (some (x158.1 + 1)) none))) := r219
        refine h_cons ?_
        refine h_op ?_
        refine h_op ?_
        refine h_sl ?_
        refine h_var rfl ?_
        refine h_nopart ?_
        refine h_part ?_
        refine h_var rfl ?_
        refine h_isI ?_
        obtain ⟨p220, xs221, hv, hs222, hr223⟩ := Rep.sq w r114
        cases hv
        refine h_slQ hs222 ?_
        refine h_nwL w (ds := ((cutL x109 none (some x158.1))).map enc) (K := K) (hr223.cut none (some x158.1)) (fun p224 B225 H226 s227 r228 => ?_) 
        replace m58 := m58.step s227 nm0
        replace r108 := r108.mono s227.ex
        replace r114 := r114.mono s227.ex
        replace r219 := r219.mono s227.ex
        replace st := st.go s227 go0
        replace sj32 := sj32.go s227 go0
        replace w := s227.ok
        replace r228 : Rep K B225 (.ref p224) (enc (cutL x109 none (some x158.1))) := r228
        refine h_lst ?_
        refine h_cons ?_
        refine h_var rfl ?_
        refine h_nil ?_
        refine h_newL w (ds := (([x185] : List Int)).map enc) (K := K) (.cons (Rep.int _) .nil) (fun p229 B230 H231 s232 r233 => ?_) (by show 1 ≤ sizeLine; decide)
        replace m58 := m58.step s232 nm0
        replace r108 := r108.mono s232.ex
        replace r114 := r114.mono s232.ex
        replace r219 := r219.mono s232.ex
        replace r228 := r228.mono s232.ex
        replace st := st.go s232 go0
        replace sj32 := sj32.go s232 go0
        replace w := s232.ok
        replace r233 : Rep K B230 (.ref p229) (enc ([x185] : List Int)) := r233
        obtain ⟨p234, xs235, hv, hs236, hr237⟩ := Rep.sq w r228
        cases hv
        obtain ⟨p238, xs239, hv, hs240, hr241⟩ := Rep.sq w r233
        cases hv
        obtain ⟨gd, P⟩ := P.guard
        refine h_cat hs236 hs240 (by have g := gd; simp only [hr237.length, hr241.length, List.length_map] at g ⊢; exact Nat.le_trans g (by decide)) ?_
        refine h_nwL w (ds := (((cutL x109 none (some x158.1)) ++ ([x185] : List Int))).map enc) (K := K) (RepL.cat hr237 hr241) (fun p242 B243 H244 s245 r246 => ?_) 
        replace m58 := m58.step s245 nm0
        replace r108 := r108.mono s245.ex
        replace r114 := r114.mono s245.ex
        replace r219 := r219.mono s245.ex
        replace st := st.go s245 go0
        replace sj32 := sj32.go s245 go0
        replace w := s245.ok
        replace r246 : Rep K B243 (.ref p242) (enc ((cutL x109 none (some x158.1)) ++ ([x185] : List Int))) := r246
        refine h_sl ?_
        refine h_var rfl ?_
        refine h_part ?_
        refine h_op ?_
        refine h_var rfl ?_
        refine h_c ?_
        refine h_I0 ?_
        refine h_isI ?_
        refine h_nopart ?_
        obtain ⟨p247, xs248, hv, hs249, hr250⟩ := Rep.sq w r114
        cases hv
        refine h_slQ hs249 ?_
        refine h_nwL w (ds := ((cutL x109 (some (x158.1 + 1)) none)).map enc) (K := K) (hr250.cut (some (x158.1 + 1)) none) (fun p251 B252 H253 s254 r255 => ?_) 
        replace m58 := m58.step s254 nm0
        replace r108 := r108.mono s254.ex
        replace r114 := r114.mono s254.ex
        replace r219 := r219.mono s254.ex
        replace r246 := r246.mono s254.ex
        replace st := st.go s254 go0
        replace sj32 := sj32.go s254 go0
        replace w := s254.ok
        replace r255 : Rep K B252 (.ref p251) (enc (cutL x109 (some (x158.1 + 1)) none)) := r255
        obtain ⟨p256, xs257, hv, hs258, hr259⟩ := Rep.sq w r246
        cases hv
        obtain ⟨p260, xs261, hv, hs262, hr263⟩ := Rep.sq w r255
        cases hv
        obtain ⟨gd, P⟩ := P.guard
        refine h_cat hs258 hs262 (by have g := gd; simp only [hr259.length, hr263.length, List.length_map] at g ⊢; exact Nat.le_trans g (by decide)) ?_
        refine h_nwL w (ds := ((((cutL x109 none (some x158.1)) ++ ([x185] : List Int)) ++ (cutL x109 (some (x158.1 + 1)) none))).map enc) (K := K) (RepL.cat hr259 hr263) (fun p264 B265 H266 s267 r268 => ?_) 
        replace m58 := m58.step s267 nm0
        replace r108 := r108.mono s267.ex
        replace r114 := r114.mono s267.ex
        replace r219 := r219.mono s267.ex
        replace st := st.go s267 go0
        replace sj32 := sj32.go s267 go0
        replace w := s267.ok
        replace r268 : Rep K B265 (.ref p264) (enc (((cutL x109 none (some x158.1)) ++ ([x185] : List Int)) ++ (cutL x109 (some (x158.1 + 1)) none))) := r268
        refine h_nil ?_
        refine h_newL w (ds := (([a103.1, x109, ((cutL x109 none (some x158.1)) ++ (cutL x109 (some (x158.1 + 1)) none)), (((cutL x109 none (some x158.1)) ++ ([x185] : List Int)) ++ (cutL x109 (some (x158.1 + 1)) none))] : List (List Int))).map enc) (K := K) (.cons r108 (.cons r114 (.cons r219 (.cons r268 .nil)))) (fun p269 B270 H271 s272 r273 => ?_) (by show 4 ≤ sizeLine; decide)
        replace m58 := m58.step s272 nm0
        replace r108 := r108.mono s272.ex
        replace r114 := r114.mono s272.ex
        replace st := st.go s272 go0
        replace sj32 := sj32.go s272 go0
        replace w := s272.ok
        replace r273 : Rep K B270 (.ref p269) (enc ([a103.1, x109, ((cutL x109 none (some x158.1)) ++ (cutL x109 (some (x158.1 + 1)) none)), (((cutL x109 none (some x158.1)) ++ ([x185] : List Int)) ++ (cutL x109 (some (x158.1 + 1)) none))] : List (List Int))) := r273
        refine h_set ?_
        refine h_op ?_
        refine h_var rfl ?_
        refine h_lst ?_
        refine h_cons ?_
        refine h_op ?_
        refine h_op ?_
        refine h_sl ?_
        refine h_var rfl ?_
        refine h_nopart ?_
        refine h_part ?_
        refine h_var rfl ?_
        refine h_isI ?_
        obtain ⟨p274, xs275, hv, hs276, hr277⟩ := Rep.sq w r114
        cases hv
        refine h_slQ hs276 ?_
        refine h_nwL w (ds := ((cutL x109 none (some x158.1))).map enc) (K := K) (hr277.cut none (some x158.1)) (fun p278 B279 H280 s281 r282 => ?_) 
        replace m58 := m58.step s281 nm0
        replace r108 := r108.mono s281.ex
        replace r114 := r114.mono s281.ex
        replace r273 := r273.mono s281.ex
        replace st := st.go s281 go0
        replace sj32 := sj32.go s281 go0
        replace w := s281.ok
        replace r282 : Rep K B279 (.ref p278) (enc (cutL x109 none (some x158.1))) := r282
        refine h_lst ?_
        refine h_cons ?_
        refine h_var rfl ?_
        refine h_nil ?_
        refine h_newL w (ds := (([x185] : List Int)).map enc) (K := K) (.cons (Rep.int _) .nil) (fun p283 B284 H285 s286 r287 => ?_) (by show 1 ≤ sizeLine; decide)
        replace m58 := m58.step s286 nm0
        replace r108 := r108.mono s286.ex
        replace r114 := r114.mono s286.ex
        replace r273 := r273.mono s286.ex
        replace r282 := r282.mono s286.ex
        replace st := st.go s286 go0
        replace sj32 := sj32.go s286 go0
        replace w := s286.ok
        replace r287 : Rep K B284 (.ref p283) (enc ([x185] : List Int)) := r287
        obtain ⟨p288, xs289, hv, hs290, hr291⟩ := Rep.sq w r282
        cases hv
        obtain ⟨p292, xs293, hv, hs294, hr295⟩ := Rep.sq w r287
        cases hv
        obtain ⟨gd, P⟩ := P.guard
        refine h_cat hs290 hs294 (by have g := gd; simp only [hr291.length, hr295.length, List.length_map] at g ⊢; exact Nat.le_trans g (by decide)) ?_
        refine h_nwL w (ds := (((cutL x109 none (some x158.1)) ++ ([x185] : List Int))).map enc) (K := K) (RepL.cat hr291 hr295) (fun p296 B297 H298 s299 r300 => ?_) 
        replace m58 := m58.step s299 nm0
        replace r108 := r108.mono s299.ex
        replace r114 := r114.mono s299.ex
        replace r273 := r273.mono s299.ex
        replace st := st.go s299 go0
        replace sj32 := sj32.go s299 go0
        replace w := s299.ok
        replace r300 : Rep K B297 (.ref p296) (enc ((cutL x109 none (some x158.1)) ++ ([x185] : List Int))) := r300
        refine h_sl ?_
        refine h_var rfl ?_
        refine h_part ?_
        refine h_var rfl ?_
        refine h_isI ?_
        refine h_nopart ?_
        obtain ⟨p301, xs302, hv, hs303, hr304⟩ := Rep.sq w r114
        cases hv
        refine h_slQ hs303 ?_
        refine h_nwL w (ds := ((cutL x109 (some x158.1) none)).map enc) (K := K) (hr304.cut (some x158.1) none) (fun p305 B306 H307 s308 r309 => ?_) 
        replace m58 := m58.step s308 nm0
        replace r108 := r108.mono s308.ex
        replace r114 := r114.mono s308.ex
        replace r273 := r273.mono s308.ex
        replace r300 := r300.mono s308.ex
        replace st := st.go s308 go0
        replace sj32 := sj32.go s308 go0
        replace w := s308.ok
        replace r309 : Rep K B306 (.ref p305) (enc (cutL x109 (some x158.1) none)) := r309
        obtain ⟨p310, xs311, hv, hs312, hr313⟩ := Rep.sq w r300
        cases hv
        obtain ⟨p314, xs315, hv, hs316, hr317⟩ := Rep.sq w r309
        cases hv
        obtain ⟨gd, P⟩ := P.guard
        refine h_cat hs312 hs316 (by have g := gd; simp only [hr313.length, hr317.length, List.length_map] at g ⊢; exact Nat.le_trans g (by decide)) ?_
        refine h_nwL w (ds := ((((cutL x109 none (some x158.1)) ++ ([x185] : List Int)) ++ (cutL x109 (some x158.1) none))).map enc) (K := K) (RepL.cat hr313 hr317) (fun p318 B319 H320 s321 r322 => ?_) 
        replace m58 := m58.step s321 nm0
        replace r108 := r108.mono s321.ex
        replace r114 := r114.mono s321.ex
        replace r273 := r273.mono s321.ex
        replace st := st.go s321 go0
        replace sj32 := sj32.go s321 go0
        replace w := s321.ok
        replace r322 : Rep K B319 (.ref p318) (enc (((cutL x109 none (some x158.1)) ++ ([x185] : List Int)) ++ (cutL x109 (some x158.1) none))) := r322
        refine h_cons ?_
        refine h_sl ?_
        refine h_var rfl ?_
        refine h_nopart ?_
        refine h_part ?_
        refine h_var rfl ?_
        refine h_isI ?_
        obtain ⟨p323, xs324, hv, hs325, hr326⟩ := Rep.sq w r114
        cases hv
        refine h_slQ hs325 ?_
        refine h_nwL w (ds := ((cutL x109 none (some x158.1))).map enc) (K := K) (hr326.cut none (some x158.1)) (fun p327 B328 H329 s330 r331 => ?_) 
        replace m58 := m58.step s330 nm0
        replace r108 := r108.mono s330.ex
        replace r114 := r114.mono s330.ex
        replace r273 := r273.mono s330.ex
        replace r322 := r322.mono s330.ex
        replace st := st.go s330 go0
        replace sj32 := sj32.go s330 go0
        replace w := s330.ok
        replace r331 : Rep K B328 (.ref p327) (enc (cutL x109 none (some x158.1))) := r331
        refine h_cons ?_
        refine h_var rfl ?_
        refine h_nil ?_
        refine h_newL w (ds := (([(((cutL x109 none (some x158.1)) ++ ([x185] : List Int)) ++ (cutL x109 (some x158.1) none)), (cutL x109 none (some x158.1)), a103.1] : List (List Int))).map enc) (K := K) (.cons r322 (.cons r331 (.cons r108 .nil))) (fun p332 B333 H334 s335 r336 => ?_) (by show 3 ≤ sizeLine; decide)
        replace m58 := m58.step s335 nm0
        replace r108 := r108.mono s335.ex
        replace r114 := r114.mono s335.ex
        replace r273 := r273.mono s335.ex
        replace st := st.go s335 go0
        replace sj32 := sj32.go s335 go0
        replace w := s335.ok
        replace r336 : Rep K B333 (.ref p332) (enc ([(((cutL x109 none (some x158.1)) ++ ([x185] : List Int)) ++ (cutL x109 (some x158.1) none)), (cutL x109 none (some x158.1)), a103.1] : List (List Int))) := r336
        obtain ⟨p337, xs338, hv, hs339, hr340⟩ := Rep.sq w r273
        cases hv
        obtain ⟨p341, xs342, hv, hs343, hr344⟩ := Rep.sq w r336
        cases hv
        obtain ⟨gd, P⟩ := P.guard
        refine h_cat hs339 hs343 (by have g := gd; simp only [hr340.length, hr344.length, List.length_map] at g ⊢; exact Nat.le_trans g (by decide)) ?_
        refine h_nwL w (ds := ((([a103.1, x109, ((cutL x109 none (some x158.1)) ++ (cutL x109 (some (x158.1 + 1)) none)), (((cutL x109 none (some x158.1)) ++ ([x185] : List Int)) ++ (cutL x109 (some (x158.1 + 1)) none))] : List (List Int)) ++ ([(((cutL x109 none (some x158.1)) ++ ([x185] : List Int)) ++ (cutL x109 (some x158.1) none)), (cutL x109 none (some x158.1)), a103.1] : List (List Int)))).map enc) (K := K) (RepL.cat hr340 hr344) (fun p345 B346 H347 s348 r349 => ?_) 
        replace m58 := m58.step s348 nm0
        replace r108 := r108.mono s348.ex
        replace r114 := r114.mono s348.ex
        replace r273 := r273.mono s348.ex
        replace st := st.go s348 go0
        replace sj32 := sj32.go s348 go0
        replace w := s348.ok
        replace r349 : Rep K B346 (.ref p345) (enc (([a103.1, x109, ((cutL x109 none (some x158.1)) ++ (cutL x109 (some (x158.1 + 1)) none)), (((cutL x109 none (some x158.1)) ++ ([x185] : List Int)) ++ (cutL x109 (some (x158.1 + 1)) none))] : List (List Int)) ++ ([(((cutL x109 none (some x158.1)) ++ ([x185] : List Int)) ++ (cutL x109 (some x158.1) none)), (cutL x109 none (some x158.1)), a103.1] : List (List Int)))) := r349
        refine h_seq ?_
        refine h_forE ?_
        refine h_var rfl ?_
        obtain ⟨p350, xs351, hv, hb352, hr353⟩ := Rep.sqB r349
        cases hv
        have wj355 := w
        have sj354 := Stp.refl (W := []) w
        refine h_forL P (w.l hb352) hr353 (fun (a : Unit) σ' H' => ∃ (B' : Hp) (o__law_some : Option V), Stp [] B346 H347 B' H' ∧ σ' = [some ((.ref p1)), some (.int x40), some ((.ref p55)), some (v107), some ((.ref p115)), some (.int x158.1), some (.int x185), some ((.ref p345)), o__law_some, o53]) ⟨_, _, sj354, rfl⟩ (fun _ _ _ j => ?_) ?_ ?_
        · obtain ⟨B365, o368, s367, rfl⟩ := j
          exact s367.ok.l (s367.ex.l hb352)
        · rintro N356 T357 x362 v363 a361 _ H366 ⟨B365, o368, s367, rfl⟩ r364 kk358 kr359 kb360 P
          replace m58 := m58.step s367 nm0
          replace r108 := r108.mono s367.ex
          replace r114 := r114.mono s367.ex
          replace r349 := r349.mono s367.ex
          replace st := st.go s367 go0
          replace sj32 := sj32.go s367 go0
          replace w := s367.ok
          have sj354 := s367
          replace r364 := r364.mono sj354.ex
          refine h_gname ?_
          refine h_if ?_
          refine h_tnot ?_
          refine h_tB ?_
          refine h_call ?_
          refine h_cons ?_
          refine h_var rfl ?_
          refine h_nil ?_
          refine ⟨B365, v363, x362, w, rfl, r364, (P.bind).mono (fun x369 P => ?_) (fun _ z => z)⟩
          refine fun v373 B370 H371 s372 r374 => ?_
          replace m58 := m58.step s372 nm0
          replace r108 := r108.mono s372.ex
          replace r114 := r114.mono s372.ex
          replace r349 := r349.mono s372.ex
          replace r364 := r364.mono s372.ex
          replace st := st.go s372 go0
          replace sj32 := sj32.go s372 go0
          replace sj354 := sj354.go s372 go0
          replace w := s372.ok
          cases r374
          refine h_bl ?_
          refine h_iteN (fun c1 => ?_) (fun c1 => ?_)
          · replace P := P.iteF c1
            refine h_ret ?_
            refine h_c ?_
            exact (kr37 _ (kr359 _ P.ok)) _ _ _ st (Rep.bl _)
          · replace P := P.iteT c1
            refine h_next ?_
            refine h_nx ?_
            exact kk358 () _ _ ⟨_, _, sj354, rfl⟩ P.ok
        · rintro a375 _ H377 ⟨B376, o379, s378, rfl⟩ P
          replace m58 := m58.step s378 nm0
          replace r108 := r108.mono s378.ex
          replace r114 := r114.mono s378.ex
          replace r349 := r349.mono s378.ex
          replace st := st.go s378 go0
          replace sj32 := sj32.go s378 go0
          replace w := s378.ok
          refine h_nx ?_
          refine h_seq <| h_if ?_
          refine h_test ?_
          refine h_op ?_
          refine h_call ?_
          refine h_cons ?_
          refine h_call ?_
          refine h_cons ?_
          refine h_var rfl ?_
          refine h_nil ?_
          refine ⟨B376, v107, (enc a103.1), w, rfl, r108, (P.bind.noErr).mono (fun x380 P => ?_) (fun _ z => z.elim)⟩
          refine fun v384 B381 H382 s383 r385 => ?_
          replace m58 := m58.step s383 nm0
          replace r108 := r108.mono s383.ex
          replace r114 := r114.mono s383.ex
          replace r349 := r349.mono s383.ex
          replace st := st.go s383 go0
          replace sj32 := sj32.go s383 go0
          replace w := s383.ok
          refine h_nil ?_
          refine ⟨B381, v384, (enc x380), w, rfl, r385, (P.bind.noErr).mono (fun x386 P => ?_) (fun _ z => z.elim)⟩
          refine fun v390 B387 H388 s389 r391 => ?_
          replace m58 := m58.step s389 nm0
          replace r108 := r108.mono s389.ex
          replace r114 := r114.mono s389.ex
          replace r349 := r349.mono s389.ex
          replace r385 := r385.mono s389.ex
          replace st := st.go s389 go0
          replace sj32 := sj32.go s389 go0
          replace w := s389.ok
          refine h_var rfl ?_
          obtain ⟨gd, P⟩ := P.guard
          refine h_neD (d := (enc x386)) (e := (enc a103.1)) w r391 r108 gd ?_
          refine h_bl ?_
          refine h_ite (fun c1 => ?_) (fun c1 => ?_)
          · replace P := P.iteT c1
            refine h_ret ?_
            refine h_c ?_
            exact (kr37 _ P.ok) _ _ _ st (Rep.bl _)
          · replace P := P.iteF c1
            refine h_next ?_
            refine h_nx ?_
            refine h_set ?_
            refine h_call ?_
            refine h_cons ?_
            refine h_var rfl ?_
            refine h_cons ?_
            refine h_var rfl ?_
            refine h_nil ?_
            refine ⟨B387, p55, x175.2, v107, a103.1, w, rfl, m58, r108, (P.bind).mono (fun x392 P => ?_) (fun _ z => z)⟩
            refine fun v396 B393 H394 s395 m58 r397 => ?_
            replace r108 := r108.mono s395.ex
            replace r114 := r114.mono s395.ex
            replace r349 := r349.mono s395.ex
            replace st := st.go s395 (go1 (.inr n60))
            replace sj32 := sj32.go s395 (go1 (.inr n61))
            replace w := s395.ok
            refine h_if ?_
            refine h_tor ?_
            refine h_test ?_
            refine h_op ?_
            refine h_call ?_
            refine h_cons ?_
            refine h_c ?_
            refine h_cons ?_
            refine h_var rfl ?_
            refine h_nil ?_
            refine ⟨B393, v396, x392.1, w, rfl, r397, (P.bind).mono (fun x398 P => ?_) (fun _ z => z)⟩
            refine fun v402 B399 H400 s401 r403 => ?_
            replace m58 := m58.step s401 nm0
            replace r108 := r108.mono s401.ex
            replace r114 := r114.mono s401.ex
            replace r349 := r349.mono s401.ex
            replace r397 := r397.mono s401.ex
            replace st := st.go s401 go0
            replace sj32 := sj32.go s401 go0
            replace w := s401.ok
            refine h_tup ?_
            refine h_cons ?_
            refine h_c ?_
            refine h_cons ?_
            refine h_c ?_
            refine h_nil ?_
            refine h_newT w (K := K) (.cons (Rep.str _) (.cons (Rep.bl _) .nil)) (fun p404 B405 H406 s407 r408 => ?_) (by show 2 ≤ sizeLine; decide)
            replace m58 := m58.step s407 nm0
            replace r108 := r108.mono s407.ex
            replace r114 := r114.mono s407.ex
            replace r349 := r349.mono s407.ex
            replace r397 := r397.mono s407.ex
            replace r403 := r403.mono s407.ex
            replace st := st.go s407 go0
            replace sj32 := sj32.go s407 go0
            replace w := s407.ok
            replace r408 : Rep K B405 (.ref p404) (enc (⟨("bytes" : Str), false⟩ : (Tp2 Str Bool))) := r408
            obtain ⟨gd, P⟩ := P.guard
            refine h_neD (d := x398) (e := (enc (⟨("bytes" : Str), false⟩ : (Tp2 Str Bool)))) w r403 r408 gd ?_
            refine h_bl ?_
            refine h_ite (fun c1 => ?_) (fun c1 => ?_)
            · replace P := P.iteT c1
              refine h_iteT ?_
              refine h_ret ?_
              refine h_c ?_
              exact (kr37 _ P.ok) _ _ _ st (Rep.bl _)
            · replace P := P.iteF c1
              refine h_test ?_
              refine h_op ?_
              refine h_call ?_
              refine h_cons ?_
              refine h_c ?_
              refine h_cons ?_
              refine h_var rfl ?_
              refine h_nil ?_
              refine ⟨B405, v396, x392.1, w, rfl, r397, (P.bind).mono (fun x409 P => ?_) (fun _ z => z)⟩
              refine fun v413 B410 H411 s412 r414 => ?_
              replace m58 := m58.step s412 nm0
              replace r108 := r108.mono s412.ex
              replace r114 := r114.mono s412.ex
              replace r349 := r349.mono s412.ex
              replace r397 := r397.mono s412.ex
              replace st := st.go s412 go0
              replace sj32 := sj32.go s412 go0
              replace w := s412.ok
              refine h_tup ?_
              refine h_cons ?_
              refine h_c ?_
              refine h_cons ?_
              refine h_c ?_
              refine h_nil ?_
              refine h_newT w (K := K) (.cons (Rep.str _) (.cons (Rep.bl _) .nil)) (fun p415 B416 H417 s418 r419 => ?_) (by show 2 ≤ sizeLine; decide)
              replace m58 := m58.step s418 nm0
              replace r108 := r108.mono s418.ex
              replace r114 := r114.mono s418.ex
              replace r349 := r349.mono s418.ex
              replace r397 := r397.mono s418.ex
              replace r414 := r414.mono s418.ex
              replace st := st.go s418 go0
              replace sj32 := sj32.go s418 go0
              replace w := s418.ok
              replace r419 : Rep K B416 (.ref p415) (enc (⟨("bytes" : Str), false⟩ : (Tp2 Str Bool))) := r419
              obtain ⟨gd, P⟩ := P.guard
              refine h_neD (d := x409) (e := (enc (⟨("bytes" : Str), false⟩ : (Tp2 Str Bool)))) w r414 r419 gd ?_
              refine h_bl ?_
              refine h_ite (fun c1 => ?_) (fun c1 => ?_)
              · replace P := P.iteT c1
                refine h_ret ?_
                refine h_c ?_
                exact (kr37 _ P.ok) _ _ _ st (Rep.bl _)
              · replace P := P.iteF c1
                refine h_next ?_
                refine h_nx ?_
                exact kk36 () _ _ ⟨_, _, _, _, _, _, _, _, _, _, sj32, rfl⟩ P.ok
    · rintro a420 _ H422 ⟨B421, o424, o425, o426, o427, o428, o429, o430, o431, o432, s423, rfl⟩ P
      replace st := st.go s423 go0
      replace w := s423.ok
      refine h_nx ?_
      refine h_ret ?_
      refine h_c ?_
      exact P.ok _ _ _ st (Rep.bl _)
end
end A
set_option Elab.async false
set_option linter.all false
set_option maxRecDepth 100000
set_option maxHeartbeats 2000000
namespace Y
open PySem PySem.Spec PyProof.Rows L2
open Enc (enc)
/-! # plain mathematics over mirrors -/
/-- m gives a value, and φ of it -/
def Ok {α : Type} (m : Res α) (φ : α → Prop) : Prop := ∃ a, m = .ok a ∧ φ a
section
variable {α β : Type} {m : Res α} {φ φ' : α → Prop} {k : α → Res β} {ψ : β → Prop} {a : α} {c : Bool} {i : Int} {l : List α}
theorem Ok.pure (h : φ a) : Ok (.ok a) φ := ⟨a, rfl, h⟩
theorem Ok.bind (h : Ok m φ) (hk : ∀ a, φ a → Ok (k a) ψ) : Ok (m.bind k) ψ := by
  obtain ⟨a, e, p⟩ := h
  rw [e]
  exact hk a p
theorem Ok.bindE (e : m = .ok a) (h : Ok (k a) ψ) : Ok (m.bind k) ψ := by rw [e]; exact h
theorem Ok.mono (h : Ok m φ) (hk : ∀ a, φ a → φ' a) : Ok m φ' := by
  obtain ⟨a, e, p⟩ := h
  exact ⟨a, e, hk a p⟩
theorem Ok.ite {m m' : Res α} (h1 : c = true → Ok m φ) (h2 : c = false → Ok m' φ) : Ok (if c = true then m else m') φ := by
  cases c
  · rw [if_neg Bool.false_ne_true]; exact h2 rfl
  · rw [if_pos rfl]; exact h1 rfl
theorem Ok.iteT {m m' : Res α} (hc : c = true) (h : Ok m φ) : Ok (if c = true then m else m') φ := by
  rw [if_pos hc]; exact h
theorem Ok.iteF {m m' : Res α} (hc : c = false) (h : Ok m' φ) : Ok (if c = true then m else m') φ := by
  rw [hc, if_neg Bool.false_ne_true]; exact h
theorem Ok.guard {p : Prop} [Decidable p] (hp : p) (h : Ok m φ) : Ok (guardR p m) φ := by
  unfold guardR; rw [if_pos hp]; exact h
theorem Ok.lt {d : α} (h : Ok (k d) ψ) : Ok (Y.lt d k) ψ := h
theorem Ok.noErr (h : Ok m φ) : Ok m.noErr φ := by
  obtain ⟨a, e, p⟩ := h
  exact ⟨a, by rw [e]; rfl, p⟩
theorem atI_in (h0 : 0 ≤ i) (h1 : i < (l.length : Int)) : ∃ x, atI l i = some x ∧ l[i.toNat]? = some x ∧ x ∈ l := by
  have h2 : i.toNat < l.length := by omega
  have e : ixN l.length i = some i.toNat := by unfold ixN; rw [if_pos h0, if_pos h1]
  refine ⟨l[i.toNat], ?_, List.getElem?_eq_getElem h2, List.getElem_mem h2⟩
  unfold atI
  rw [e]
  exact List.getElem?_eq_getElem h2
theorem Ok.ix (h0 : 0 ≤ i) (h1 : i < (l.length : Int)) (h : ∀ x, x ∈ l → l[i.toNat]? = some x → Ok (k x) ψ) : Ok ((ixR l i).bind k) ψ := by
  obtain ⟨x, e, e2, m⟩ := atI_in h0 h1
  unfold ixR
  rw [e]
  exact h x m e2
theorem Ok.ixs {x : α} (e : ixR l i = .ok x) (h : Ok (k x) ψ) : Ok ((ixR l i).bind k) ψ := by rw [e]; exact h
/-- an item of a written list -/
theorem Ok.ixm (h0 : 0 ≤ i) (h1 : i < (l.length : Int)) (h : ∀ x, x ∈ l → Ok (k x) ψ) : Ok ((ixR l i).bind k) ψ := Ok.ix h0 h1 fun x m _ => h x m
/-- a loop that keeps I and ends by itself -/
theorem Ok.for {S R : Type} {f : α → S → Res (Fl S R)} (I : S → Prop) (hf : ∀ x s, x ∈ l → I s → Ok (f x s) fun r => ∃ s', r = .nx s' ∧ I s') : ∀ {s : S}, I s → Ok (forR l s f) fun r => ∃ s', r = .nx s' ∧ I s' := by
  induction l with
  | nil => intro s h; exact ⟨_, rfl, s, rfl, h⟩
  | cons x xs ih =>
    intro s h
    refine Ok.bind (hf x s List.mem_cons_self h) ?_
    rintro r ⟨s', rfl, h'⟩
    exact ih (fun y s m h => hf y s (List.mem_cons_of_mem _ m) h) h'
/-- a comprehension: each turn gives a good thing and keeps I -/
theorem Ok.compL {S R : Type} {f : α → S → Res (Option R × S)} (I : S → Prop) (G : R → Prop) (hf : ∀ x s, x ∈ l → I s → Ok (f x s) fun r => I r.2 ∧ ∀ b, r.1 = some b → G b) : ∀ {s : S}, I s → Ok (compL l s f) fun r => I r.2 ∧ ∀ b ∈ r.1, G b := by
  induction l with
  | nil => intro s h; exact ⟨_, rfl, h, fun _ m => nomatch m⟩
  | cons x xs ih =>
    intro s h
    refine Ok.bind (hf x s List.mem_cons_self h) ?_
    rintro ⟨o, s'⟩ ⟨h', g⟩
    refine Ok.bind (ih (fun y s m h => hf y s (List.mem_cons_of_mem _ m) h) h') ?_
    rintro ⟨bs, s2⟩ ⟨h2, g2⟩
    refine ⟨_, rfl, h2, fun b m => ?_⟩
    cases o with
    | none => exact g2 b m
    | some b0 =>
      rcases List.mem_cons.mp m with e | m
      · rw [e]; exact g b0 rfl
      · exact g2 b m
theorem Ok.comp {S R : Type} {f : α → S → Res (Option R × S)} {s : S} (hl : l.length ≤ 1000000) (I : S → Prop) (G : R → Prop) (hf : ∀ x s, x ∈ l → I s → Ok (f x s) fun r => I r.2 ∧ ∀ b, r.1 = some b → G b) (h : I s) : Ok (compR l s f) fun r => I r.2 ∧ ∀ b ∈ r.1, G b := Ok.guard hl (Ok.compL I G hf h)
/-- .. and no more things than turns -/
theorem Ok.compLen {S R : Type} {f : α → S → Res (Option R × S)} {s : S} (hl : l.length ≤ 1000000) (I : S → Prop) (G : R → Prop) (hf : ∀ x s, x ∈ l → I s → Ok (f x s) fun r => I r.2 ∧ ∀ b, r.1 = some b → G b) (h : I s) : Ok (compR l s f) fun r => I r.2 ∧ (∀ b ∈ r.1, G b) ∧ r.1.length ≤ l.length := by
  refine Ok.guard hl ?_
  clear hl
  induction l generalizing s with
  | nil => exact ⟨_, rfl, h, (fun _ m => nomatch m), Nat.le_refl _⟩
  | cons x xs ih =>
    refine Ok.bind (hf x s List.mem_cons_self h) ?_
    rintro ⟨o, s'⟩ ⟨h', g⟩
    refine Ok.bind (ih (fun y s m h => hf y s (List.mem_cons_of_mem _ m) h) h') ?_
    rintro ⟨bs, s2⟩ ⟨h2, g2, g3⟩
    refine ⟨_, rfl, h2, fun b m => ?_, ?_⟩
    · cases o with
      | none => exact g2 b m
      | some b0 =>
        rcases List.mem_cons.mp m with e | m
        · rw [e]; exact g b0 rfl
        · exact g2 b m
    · cases o with
      | none => exact Nat.le_succ_of_le g3
      | some b0 => exact Nat.succ_le_succ g3
end
theorem log2_small {n b : Nat} (h : n < 2 ^ b) (h0 : 0 < b) : n.log2 < b := PySem.Flt.log2_lt_of h0 h
theorem mulW {i j : Int} {a b : Nat} (ha : i.natAbs < 2 ^ a) (hb : j.natAbs < 2 ^ b) (h0 : 0 < a := by decide) (h1 : 0 < b := by decide) (h : a + b ≤ 1000000 := by decide) : CMulW i j := wide_mul ha hb h0 h1 h
theorem divW {i j : Int} {b : Nat} (h : 0 < j) (hb : j.natAbs < 2 ^ b) (h0 : 0 < b := by decide) (h9 : b ≤ 9000 := by decide) : CDivW i j := wide_div h hb h0 h9
theorem cutL_mem {α : Type} {l : List α} {lo hi : Option Int} {x : α} (h : x ∈ cutL l lo hi) : x ∈ l := List.mem_of_mem_drop (List.mem_of_mem_take h)
theorem cutL_len {α : Type} {l : List α} {lo hi : Option Int} : (cutL l lo hi).length ≤ l.length := by
  unfold cutL
  rw [List.length_take, List.length_drop]
  omega
mutual
theorem eqv_refl : ∀ d : D, flatD d = true → PyData.eqv (pyD d) (pyD d) = true
  | .non, _ => rfl
  | .bl b, _ => by show (b == b) = true; simp
  | .int i, _ => by show (i == i) = true; simp
  | .str x, _ => by show (x == x) = true; simp
  | .lst ds, h => eqvs_refl ds h
  | .tup ds, h => eqvs_refl ds h
  | .dic _, h => nomatch h
theorem eqvs_refl : ∀ ds : List D, flatDs ds = true → PyData.eqvAll (pyDs ds) (pyDs ds) = true
  | [], _ => rfl
  | d :: ds, h => by
    have h' : (flatD d && flatDs ds) = true := h
    rw [Bool.and_eq_true] at h'
    show (PyData.eqv (pyD d) (pyD d) && PyData.eqvAll (pyDs ds) (pyDs ds)) = true
    rw [eqv_refl d h'.1, eqvs_refl ds h'.2]
    rfl
end
theorem eqD_refl {d : D} (h : flatD d = true) : eqD d d = true := eqv_refl d h
theorem flat_ints : ∀ l : List Int, flatDs (l.map enc) = true
  | [] => rfl
  | i :: l => by show (flatD (.int i) && flatDs (l.map enc)) = true; rw [flat_ints l]; rfl

mutual
/-- data that may be compared: no dict, texts plain, not deep -/
def eqOk (n : Nat) : D → Bool
  | .lst ds => match n with | 0 => false | n + 1 => eqOks n ds
  | .tup ds => match n with | 0 => false | n + 1 => eqOks n ds
  | .dic _ => false
  | .str x => PyData.strOk x
  | _ => true
def eqOks (n : Nat) : List D → Bool
  | [] => true
  | d :: ds => eqOk n d && eqOks n ds
end
mutual
theorem eqOk_flat : ∀ (d : D) (n : Nat), eqOk n d = true → flatD d = true ∧ (pyD d).canLay0 = true ∧ (pyD d).depth ≤ n
  | .non, _, _ => ⟨rfl, rfl, Nat.zero_le _⟩
  | .bl _, _, _ => ⟨rfl, rfl, Nat.zero_le _⟩
  | .int _, _, _ => ⟨rfl, rfl, Nat.zero_le _⟩
  | .str _, _, h => ⟨rfl, h, Nat.zero_le _⟩
  | .lst ds, n + 1, h => let ⟨a, b, c⟩ := eqOks_flat ds n h; ⟨a, b, Nat.succ_le_succ c⟩
  | .tup ds, n + 1, h => let ⟨a, b, c⟩ := eqOks_flat ds n h; ⟨a, b, Nat.succ_le_succ c⟩
  | .lst _, 0, h => nomatch h
  | .tup _, 0, h => nomatch h
  | .dic _, _, h => nomatch h
theorem eqOks_flat : ∀ (ds : List D) (n : Nat), eqOks n ds = true → flatDs ds = true ∧ PyData.canLayAll0 (pyDs ds) = true ∧ PyData.depthAll (pyDs ds) ≤ n
  | [], _, _ => ⟨rfl, rfl, Nat.zero_le _⟩
  | d :: ds, n, h => by
    have h' : (eqOk n d && eqOks n ds) = true := h
    rw [Bool.and_eq_true] at h'
    obtain ⟨a, b, c⟩ := eqOk_flat d n h'.1
    obtain ⟨a', b', c'⟩ := eqOks_flat ds n h'.2
    refine ⟨?_, ?_, ?_⟩
    · show (flatD d && flatDs ds) = true; rw [a, a']; rfl
    · show (PyData.canLay0 (pyD d) && PyData.canLayAll0 (pyDs ds)) = true; rw [b, b']; rfl
    · exact Nat.max_le.mpr ⟨c, c'⟩
end
theorem okEq_of {d e : D} (h : eqOk 20 d = true) (h' : eqOk 20 e = true) : okEq d e := by
  obtain ⟨a, b, c⟩ := eqOk_flat d 20 h
  obtain ⟨a', b', c'⟩ := eqOk_flat e 20 h'
  refine ⟨a, a', ?_, ?_⟩
  · unfold SeqAt.shaped; rw [b, decide_eq_true (Nat.le_trans c (by decide))]; rfl
  · unfold SeqAt.shaped; rw [b', decide_eq_true (Nat.le_trans c' (by decide))]; rfl
theorem eqOk_ints : ∀ (l : List Int) (n : Nat), eqOks n (l.map enc) = true
  | [], _ => rfl
  | i :: l, n => by show (eqOk n (.int i) && eqOks n (l.map enc)) = true; rw [eqOk_ints l n]; rfl
/-- a comprehension without a state whose turns give values -/
theorem compL_map {α β : Type} {f : α → Unit → Res (Option β × Unit)} {g : α → β} : ∀ {l : List α}, (∀ x ∈ l, f x () = .ok (some (g x), ())) → compL l () f = .ok (l.map g, ())
  | [], _ => rfl
  | x :: xs, h => by
    unfold compL
    rw [h x List.mem_cons_self]
    show ((compL xs () f).bind fun q => .ok (g x :: q.1, q.2)) = _
    rw [compL_map fun y m => h y (List.mem_cons_of_mem _ m)]
    rfl
theorem compR_map {α β : Type} {f : α → Unit → Res (Option β × Unit)} {g : α → β} {l : List α} (hl : l.length ≤ 1000000) (h : ∀ x ∈ l, f x () = .ok (some (g x), ())) : compR l () f = .ok (l.map g, ()) := by
  unfold compR guardR
  rw [if_pos hl, compL_map h]
def smallD (d : D) : Prop := match d with | .lst ds => ds.length ≤ 1000000 | _ => True
end Y

set_option Elab.async false
set_option linter.all false
set_option maxRecDepth 100000
set_option maxHeartbeats 2000000
namespace A
open PySem PySem.Spec PyProof.Rows L2 Y
open Y.Enc (enc)
/-- a state of draws -/
def Gd (st : List Int) : Prop := st.length = 1 ∨ st.length = 3
theorem setR_in {α : Type} {l : List α} {i : Int} {x : α} (h0 : 0 ≤ i) (h1 : i < (l.length : Int)) : setR l i x = .ok (l.set i.toNat x) := by
  unfold setR
  have e : ixN l.length i = some i.toNat := by unfold ixN; rw [if_pos h0, if_pos h1]
  rw [e]
theorem Ok.set {α β : Type} {l : List α} {i : Int} {x : α} {k : List α → Res β} {ψ : β → Prop} (h0 : 0 ≤ i) (h1 : i < (l.length : Int)) (h : ∀ l', l'.length = l.length → Ok (k l') ψ) : Ok ((setR l i x).bind k) ψ := by
  rw [setR_in h0 h1]
  exact h _ (List.length_set ..)
theorem digit_ok {st : List Int} {b : Int} (h : Gd st) (hb : 0 < b) (hb2 : b.natAbs < 2 ^ 4000) : Ok (l_digit st b) fun r => (0 ≤ r.1 ∧ r.1 < b) ∧ r.2.length = 3 := by
  unfold l_digit
  refine Ok.bind (φ := fun l => l.length = 3) (Ok.ite (fun c => ?_) (fun c => ?_)) fun l hl => ?_
  · have e : st.length = 1 := by have := of_decide_eq_true c; omega
    refine Ok.ix (by decide) (by omega) fun x _ _ => Ok.guard (by simp [e]) (Ok.pure (by simp [e]))
  · have e : ¬ (st.length : Int) = 1 := of_decide_eq_false c
    refine Ok.pure ?_
    rcases h with h | h
    · exact absurd (by omega) e
    · exact h
  refine Ok.ix (by decide) (by omega) fun x _ _ => Ok.ite (fun c => ?_) (fun c => ?_)
  · refine Ok.ix (by decide) (by omega) fun y _ _ => Ok.guard hb (Ok.lt (Ok.ix (by decide) (by omega) fun z _ _ => Ok.guard (divW hb hb2) (Ok.set (by decide) (by omega) fun l' e => Ok.pure ⟨⟨Int.emod_nonneg _ (Int.ne_of_gt hb), Int.emod_lt_of_pos _ hb⟩, e.trans hl⟩)))
  · refine Ok.ix (by decide) (by omega) fun y _ _ => Ok.set (by decide) (by omega) fun l' e => Ok.ix (by decide) (by omega) fun z _ _ => Ok.ix (by decide) (by omega) fun u _ _ => Ok.lt ?_
    generalize hn : (((z + 7919 * u) + 1) * 48271) % 2147483647 = n
    have hn1 : 0 ≤ n ∧ n < 2147483647 := by subst hn; exact ⟨Int.emod_nonneg _ (by decide), Int.emod_lt_of_pos _ (by decide)⟩
    refine Ok.guard (mulW (a := 32) (b := 32) (by omega) (by omega)) (Ok.lt ?_)
    generalize hm : (n * (n / 1009 + 69621)) % 2147483647 = m
    have hm1 : 0 ≤ m ∧ m < 2147483647 := by subst hm; exact ⟨Int.emod_nonneg _ (by decide), Int.emod_lt_of_pos _ (by decide)⟩
    refine Ok.guard (mulW (a := 32) (b := 32) (by omega) (by omega)) (Ok.guard hb (Ok.pure ⟨⟨Int.emod_nonneg _ (Int.ne_of_gt hb), Int.emod_lt_of_pos _ hb⟩, e.trans hl⟩))
theorem gd3 {st : List Int} (h : st.length = 3) : Gd st := .inr h
/-- a draw -/
theorem dg {β : Type} {st : List Int} {b : Int} {k : Int × List Int → Res β} {ψ : β → Prop} (h : Gd st) (hb : 0 < b) (hb2 : b.natAbs < 2 ^ 4000) (hk : ∀ x s, 0 ≤ x → x < b → s.length = 3 → Ok (k (x, s)) ψ) : Ok ((l_digit st b).bind k) ψ :=
  Ok.bind (digit_ok h hb hb2) fun r p => hk r.1 r.2 p.1.1 p.1.2 p.2
theorem big {b : Int} {n : Nat} (h : b.natAbs < 2 ^ n) (hn : n ≤ 4000) : b.natAbs < 2 ^ 4000 := Nat.lt_of_lt_of_le h (Nat.pow_le_pow_right (by decide) hn)
theorem bg {b : Int} (h : b.natAbs < 18446744073709551616) : b.natAbs < 2 ^ 4000 := big (n := 64) h (by decide)
end A

set_option Elab.async false
set_option linter.all false
set_option maxRecDepth 100000
set_option maxHeartbeats 2000000
namespace A
open PySem PySem.Spec PyProof.Rows L2 Y
open Y.Enc (enc)
/-! # rows of bytes -/
def isBytes (d : D) : Bool := match d with
  | .lst ds => ds.all fun d => isWhole d 0 255
  | _ => false
theorem is_bytes_ok {d : D} (h : smallD d) : m_is_bytes d = .ok (isBytes d) := by
  unfold m_is_bytes
  cases d with
  | lst ds =>
    rw [if_pos (show isA "list" (.lst ds) = true from (by decide +kernel : isS "list" "list" = true))]
    show ((compR ds () _).bind _) = _
    rw [compR_map (g := fun x => isWhole x 0 255) h (fun x _ => rfl)]
    show Res.ok ((ds.map fun x => isWhole x 0 255).all id) = _
    rw [List.all_map]
    rfl
  | _ => rfl
theorem small_ints {l : List Int} (h : l.length ≤ 1000000) : smallD (enc l) := by show (l.map enc).length ≤ 1000000; rw [List.length_map]; exact h
def Byt (i : Int) : Prop := 0 ≤ i ∧ i ≤ 255
theorem bytes_ints {l : List Int} (h : ∀ b ∈ l, Byt b) : isBytes (enc l) = true := by
  show (l.map enc).all (fun d => isWhole d 0 255) = true
  rw [List.all_map, List.all_eq_true]
  intro b m
  obtain ⟨h0, h1⟩ := h b m
  show (decide (0 ≤ b) && decide (b ≤ 255)) = true
  rw [decide_eq_true h0, decide_eq_true h1]; rfl
theorem bytes_three {a b : List Int} {x : D} (ha : ∀ i ∈ a, Byt i) (hb : ∀ i ∈ b, Byt i) : isBytes (enc (((a.map enc : List D) ++ ([x] : List D)) ++ (b.map enc : List D))) = isWhole x 0 255 := by
  have e1 : ∀ {l : List Int}, (∀ i ∈ l, Byt i) → (l.map enc : List D).all (fun d => isWhole d 0 255) = true := fun {l} h => bytes_ints h
  show (List.map (fun d : D => d) (((a.map enc : List D) ++ [x]) ++ (b.map enc : List D))).all (fun d => isWhole d 0 255) = _
  rw [List.map_id', List.all_append, List.all_append, e1 ha, e1 hb]
  simp
theorem eqOk_row (l : List Int) : eqOk 20 (enc l) = true := eqOk_ints l 19
theorem ok_rows (l m : List Int) : okEq (enc l) (enc m) := okEq_of (eqOk_row l) (eqOk_row m)
theorem eqs_int : ∀ (l m : List Int), PyData.eqvAll (pyDs (l.map enc)) (pyDs (m.map enc)) = decide (l = m)
  | [], [] => rfl
  | [], _ :: _ => rfl
  | _ :: _, [] => rfl
  | x :: l, y :: m => by
    show (decide (x = y) && PyData.eqvAll (pyDs (l.map enc)) (pyDs (m.map enc))) = _
    rw [eqs_int l m, ← Bool.decide_and]
    exact decide_eq_decide.mpr ⟨fun h => by rw [h.1, h.2], fun h => by cases h; exact ⟨rfl, rfl⟩⟩
/-- rows are compared thing by thing -/
theorem eq_rows (l m : List Int) : eqD (enc l) (enc m) = decide (l = m) := eqs_int l m
theorem eq_row (l : List Int) : eqD (enc l) (enc l) = true := by rw [eq_rows]; simp
theorem sure_row {l : List Int} (hl : l.length ≤ 1000000) (h : ∀ b ∈ l, Byt b) : m_sure_row (enc l) = .ok () := by
  unfold m_sure_row
  rw [is_bytes_ok (small_ints hl), bytes_ints h]
  rfl
theorem no_row {d : D} (hd : smallD d) (h : isBytes d = false) : m_sure_row d = .err ⟨"NoBytes", []⟩ := by
  unfold m_sure_row
  rw [is_bytes_ok hd, h]
  rfl
theorem rngI_len' (n : Int) : (rngI 0 n).length = n.toNat := by unfold rngI; simp
theorem bytes_l {st : List Int} {n : Int} (h : Gd st) (hn : 0 ≤ n) (hn2 : n ≤ 100000) : Ok (l_bytes st n) fun r => (∀ b ∈ r.1, Byt b) ∧ r.1.length = n.toNat ∧ r.2.length = 3 := by
  unfold l_bytes
  refine dg h (by decide) (bg (by decide)) fun x1 s1 a1 b1 h1 => Ok.guard (by omega) ?_
  suffices q : Ok (forR (rngI 0 n) ((s1, ([] : List Int)) : List Int × List Int) (fun x23 (a22 : (List Int) × (List Int)) => (l_digit a22.1 256).bind fun x31 => (ixR ([0, 0, 1, 2, 255, x31.1] : List Int) (x31.1 % 6)).bind fun x46 => (ixR ([x31.1, (x31.1 % 3), x46] : List Int) x1).bind fun x59 => guardR (a22.2.length < 1000000) <| (.ok (.nx (x31.2, (a22.2 ++ [x59]))) : Res (Fl (List Int × List Int) (List Int × List Int))))) fun r => ∃ s', r = .nx s' ∧ s'.1.length = 3 ∧ (∀ b ∈ s'.2, Byt b) ∧ s'.2.length = 0 + (rngI 0 n).length by
    refine Ok.bind q ?_
    rintro _ ⟨s', rfl, p1, p2, p3⟩
    exact Ok.pure ⟨p2, by rw [p3, rngI_len']; omega, p1⟩
  have hlen : 0 + (rngI 0 n).length ≤ 100000 := by rw [rngI_len']; omega
  have main : ∀ (xs : List Int) (s : List Int × List Int) (i : Nat), i + xs.length ≤ 100000 → s.1.length = 3 → (∀ b ∈ s.2, Byt b) → s.2.length = i → Ok (forR xs s (fun x23 (a22 : (List Int) × (List Int)) => (l_digit a22.1 256).bind fun x31 => (ixR ([0, 0, 1, 2, 255, x31.1] : List Int) (x31.1 % 6)).bind fun x46 => (ixR ([x31.1, (x31.1 % 3), x46] : List Int) x1).bind fun x59 => guardR (a22.2.length < 1000000) <| (.ok (.nx (x31.2, (a22.2 ++ [x59]))) : Res (Fl (List Int × List Int) (List Int × List Int))))) fun r => ∃ s', r = .nx s' ∧ s'.1.length = 3 ∧ (∀ b ∈ s'.2, Byt b) ∧ s'.2.length = i + xs.length := by
    intro xs
    induction xs with
    | nil => exact fun s i _ p1 p2 p3 => Ok.pure ⟨s, rfl, p1, p2, p3⟩
    | cons x xs ih =>
      rintro ⟨s1, s2⟩ i hi p1 p2 p3
      have hi' : i + (xs.length + 1) ≤ 100000 := hi
      simp only at p1 p2 p3
      refine Ok.bind (φ := fun r => ∃ s', r = .nx s' ∧ s'.1.length = 3 ∧ (∀ b ∈ s'.2, Byt b) ∧ s'.2.length = i + 1) ?_ ?_
      · refine dg (gd3 p1) (by decide) (bg (by decide)) fun y s a b h3 => ?_
        refine Ok.ixm (by show 0 ≤ y % 6; omega) (by show y % 6 < 6; omega) fun z mz => Ok.ixm a1 b1 fun u mu => Ok.guard (by simp only; omega) (Ok.pure ⟨_, rfl, h3, fun v mv => ?_, by rw [List.length_append, p3]; rfl⟩)
        rcases List.mem_append.mp mv with mv | mv
        · exact p2 v mv
        · rw [List.mem_singleton.mp mv]
          simp only [List.mem_cons, List.not_mem_nil, or_false] at mz mu
          unfold Byt
          rcases mu with rfl | rfl | rfl
          · omega
          · omega
          · rcases mz with rfl | rfl | rfl | rfl | rfl | rfl <;> omega
      · rintro _ ⟨s', rfl, q1, q2, q3⟩
        have := ih s' (i + 1) (by omega) q1 q2 q3
        refine this.mono ?_
        rintro r ⟨s2, e, w1, w2, w3⟩
        exact ⟨s2, e, w1, w2, by rw [w3, List.length_cons]; omega⟩
  exact main _ _ 0 hlen h1 (fun _ m => nomatch m) rfl
/-- a thing that is no row of bytes -/
theorem odd_ok {st row : List Int} (h : Gd st) (hl : row.length ≤ 400000) (hr : ∀ b ∈ row, Byt b) : Ok (l_odd_row st row) fun r => (isBytes r.1 = false ∧ smallD r.1) ∧ r.2.length = 3 := by
  unfold l_odd_row
  refine dg h (by decide) (bg (by decide)) fun x1 s1 a1 b1 h1 => Ok.ite (fun _ => ?_) fun _ => ?_
  · refine dg (gd3 h1) (by decide) (bg (by decide)) fun x2 s2 a2 b2 h2 => Ok.ixm a2 b2 fun z m => Ok.pure ⟨?_, h2⟩
    simp only [List.mem_cons, List.not_mem_nil, or_false] at m
    rcases m with rfl | rfl | rfl | rfl | rfl | rfl | rfl <;> exact ⟨rfl, trivial⟩
  · refine dg (gd3 h1) (by decide) (bg (by decide)) fun x2 s2 a2 b2 h2 => Ok.ixm a2 b2 fun z m => ?_
    refine dg (gd3 h2) (by omega) (bg (by omega)) fun x3 s3 a3 b3 h3 => ?_
    have c1 := cutL_len (l := row) (lo := none) (hi := some x3)
    have c2 := cutL_len (l := row) (lo := some x3) (hi := none)
    refine Ok.guard (by simp only [List.length_map, List.length_singleton]; omega) (Ok.guard (by simp only [List.length_append, List.length_map, List.length_singleton]; omega) (Ok.pure ⟨⟨?_, ?_⟩, h3⟩))
    · rw [bytes_three (fun i m => hr i (cutL_mem m)) (fun i m => hr i (cutL_mem m))]
      simp only [List.mem_cons, List.not_mem_nil, or_false] at m
      rcases m with rfl | rfl | rfl | rfl | rfl | rfl | rfl | rfl | rfl | rfl <;> rfl
    · show (List.map enc _).length ≤ 1000000
      simp only [List.length_map, List.length_append, List.length_singleton]; omega
/-- the check of a row -/
def sumB (l : List Int) (n : Int) : Int := l.foldl (fun n b => (n * 257 + b) % 65521) n
theorem sumB_app (l m : List Int) (n : Int) : sumB (l ++ m) n = sumB m (sumB l n) := List.foldl_append
theorem byt_cut {l : List Int} {lo hi : Option Int} (h : ∀ b ∈ l, Byt b) : ∀ b ∈ cutL l lo hi, Byt b := fun b m => h b (cutL_mem m)
theorem byt_app {l m : List Int} (h : ∀ b ∈ l, Byt b) (h' : ∀ b ∈ m, Byt b) : ∀ b ∈ l ++ m, Byt b := fun b q => (List.mem_append.mp q).elim (h b) (h' b)
end A

set_option Elab.async false
set_option linter.all false
set_option maxRecDepth 100000
set_option maxHeartbeats 2000000
namespace A
open PySem PySem.Spec PyProof.Rows L2 Y
open Y.Enc (enc)
/-- so many noughts ahead of it: the row with a 2 behind each two noughts -/
def stL : Int → List Int → List Int
  | _, [] => []
  | n, b :: l => if (if b = 0 then n + 1 else 0) = 2 then b :: 2 :: stL 0 l else b :: stL (if b = 0 then n + 1 else 0) l
def unL : Int → List Int → Option (List Int)
  | n, [] => if n = 2 then none else some []
  | n, b :: l => if n < 2 then (unL (if b = 0 then n + 1 else 0) l).map (b :: ·) else if b = 2 then unL 0 l else none
theorem unL_lt {n b : Int} {l : List Int} (h : n < 2) : unL n (b :: l) = (unL (if b = 0 then n + 1 else 0) l).map (b :: ·) := if_pos h
theorem unL_two {b : Int} {l : List Int} : unL 2 (b :: l) = if b = 2 then unL 0 l else none := if_neg (by decide)
theorem st_two {n b : Int} {l : List Int} (h : (if b = 0 then n + 1 else 0) = 2) : stL n (b :: l) = b :: 2 :: stL 0 l := if_pos h
theorem st_one {n b : Int} {l : List Int} (h : (if b = 0 then n + 1 else 0) ≠ 2) : stL n (b :: l) = b :: stL (if b = 0 then n + 1 else 0) l := if_neg h
theorem nx01 {n b : Int} (h : n = 0 ∨ n = 1) (c : (if b = 0 then n + 1 else 0) ≠ 2) : (if b = 0 then n + 1 else 0) = 0 ∨ (if b = 0 then n + 1 else 0) = 1 := by
  by_cases hb : b = 0
  · rw [if_pos hb] at c ⊢
    omega
  · rw [if_neg hb]
    exact .inl rfl
/-- back again -/
theorem un_st : ∀ (l : List Int) (n : Int), n = 0 ∨ n = 1 → unL n (stL n l) = some l
  | [], n, h => by
    rcases h with rfl | rfl <;> rfl
  | b :: l, n, h => by
    have hn : n < 2 := by omega
    by_cases c : (if b = 0 then n + 1 else 0) = 2
    · rw [st_two c, unL_lt hn, c, unL_two, if_pos rfl, un_st l 0 (.inl rfl)]
      rfl
    · rw [st_one c, unL_lt hn, un_st l _ (nx01 h c)]
      rfl
/-- no two noughts and a 1 -/
theorem un_001 : ∀ (pre : List Int) (post : List Int) (n : Int), n = 0 ∨ n = 1 ∨ n = 2 → unL n (pre ++ 0 :: 0 :: 1 :: post) = none
  | [], post, n, h => by
    rcases h with rfl | rfl | rfl
    · rfl
    · rfl
    · rfl
  | b :: pre, post, n, h => by
    show unL n (b :: (pre ++ 0 :: 0 :: 1 :: post)) = none
    by_cases hn : n < 2
    · rw [unL_lt hn, un_001 pre post _ (by split <;> omega)]
      rfl
    · obtain rfl : n = 2 := by omega
      rw [unL_two, un_001 pre post 0 (.inl rfl)]
      split <;> rfl
/-- by pairs of noughts -/
def lwL : List Int → Option (List Int)
  | [] => some []
  | [b] => some [b]
  | b :: c :: r => if b = 0 ∧ c = 0 then (match r with | x :: r' => if x = 2 then (lwL r').map (0 :: 0 :: ·) else none | [] => none) else (lwL (c :: r)).map (b :: ·)
theorem lw_nn {x : Int} {r : List Int} : lwL (0 :: 0 :: x :: r) = if x = 2 then (lwL r).map (0 :: 0 :: ·) else none := by
  conv => lhs; unfold lwL
  rw [if_pos ⟨rfl, rfl⟩]
theorem lw_nn0 : lwL [0, 0] = none := by
  conv => lhs; unfold lwL
  rw [if_pos ⟨rfl, rfl⟩]
theorem lw_one {b c : Int} {r : List Int} (h : ¬ (b = 0 ∧ c = 0)) : lwL (b :: c :: r) = (lwL (c :: r)).map (b :: ·) := by
  conv => lhs; unfold lwL
  rw [if_neg h]
theorem lw_un : ∀ (n : Nat) (l : List Int), l.length ≤ n → lwL l = unL 0 l
  | _, [], _ => by unfold lwL; rfl
  | _, [b], _ => by
    unfold lwL
    rw [unL_lt (by decide)]
    by_cases h : b = 0
    · subst h; rfl
    · rw [if_neg h]; rfl
  | 0, _ :: _ :: _, h => absurd h (Nat.not_succ_le_zero _)
  | n + 1, b :: c :: r, h => by
    have hl : r.length + 1 ≤ n := by have : r.length + 1 + 1 ≤ n + 1 := h; omega
    rw [unL_lt (by decide)]
    by_cases hb : b = 0
    · subst hb
      rw [if_pos rfl]
      by_cases hc : c = 0
      · subst hc
        rw [unL_lt (by decide), if_pos rfl]
        cases r with
        | nil => rw [lw_nn0]; rfl
        | cons x r =>
          rw [lw_nn]
          show _ = ((unL 2 (x :: r)).map _).map _
          rw [unL_two]
          split
          · rw [lw_un n r (by have : r.length + 1 + 1 ≤ n := hl; omega)]
            cases unL 0 r <;> rfl
          · rfl
      · rw [lw_one (fun z => hc z.2), lw_un n (c :: r) hl, unL_lt (by decide), unL_lt (by decide), if_neg hc, if_neg hc]
    · rw [lw_one (fun z => hb z.1), lw_un n (c :: r) hl, if_neg hb]
theorem st_len : ∀ (l : List Int) (n : Int), (stL n l).length ≤ 2 * l.length
  | [], _ => Nat.le_refl _
  | b :: l, n => by
    have h := st_len l
    by_cases c : (if b = 0 then n + 1 else 0) = 2
    · rw [st_two c]
      have := h 0
      simp only [List.length_cons]
      omega
    · rw [st_one c]
      have := h (if b = 0 then n + 1 else 0)
      simp only [List.length_cons]
      omega
theorem st_byt : ∀ (l : List Int) (n : Int), (∀ b ∈ l, Byt b) → ∀ b ∈ stL n l, Byt b
  | [], _, _ => fun _ m => nomatch m
  | b :: l, n, h => fun x m => by
    have hb := h b List.mem_cons_self
    have hl := fun y m => h y (List.mem_cons_of_mem b m)
    by_cases c : (if b = 0 then n + 1 else 0) = 2
    · rw [st_two c] at m
      rcases List.mem_cons.mp m with rfl | m
      · exact hb
      · rcases List.mem_cons.mp m with rfl | m
        · exact ⟨by decide, by decide⟩
        · exact st_byt l 0 hl x m
    · rw [st_one c] at m
      rcases List.mem_cons.mp m with rfl | m
      · exact hb
      · exact st_byt l _ hl x m
theorem behind (n b : Int) : m_noughts_behind n b = .ok (if b = 0 then n + 1 else 0) := by
  unfold m_noughts_behind
  by_cases h : b = 0
  · rw [if_pos (decide_eq_true h), if_pos h]; rfl
  · rw [if_neg (by rw [decide_eq_false h]; decide), if_neg h]; rfl
theorem Ok.forM' {α β S R : Type} {g : β → α} {f : α → S → Res (Fl S R)} (I : List β → S → Prop) (hf : ∀ x xs s, I (x :: xs) s → Ok (f (g x) s) fun r => ∃ s', r = .nx s' ∧ I xs s') : ∀ {l : List β} {s : S}, I l s → Ok (forR (l.map g) s f) fun r => ∃ s', r = .nx s' ∧ I [] s'
  | [], s, h => ⟨_, rfl, s, rfl, h⟩
  | x :: xs, s, h => by
    refine Ok.bind (hf x xs s h) ?_
    rintro r ⟨s', rfl, h'⟩
    exact Ok.forM' I hf h'
def SI (row : List Int) (xs : List Int) (s : Int × List Int) : Prop := (s.1 = 0 ∨ s.1 = 1) ∧ s.2 ++ stL s.1 xs = stL 0 row ∧ s.2.length + 2 * xs.length ≤ 2 * row.length
theorem SI.two {row xs : List Int} {n b : Int} {acc : List Int} (h : SI row (b :: xs) (n, acc)) (c : (if b = 0 then n + 1 else 0) = 2) : SI row xs (0, (acc ++ [b]) ++ [2]) := by
  obtain ⟨h1, h2, h3⟩ := h
  simp only at h1 h2 h3
  rw [st_two c] at h2
  refine ⟨.inl rfl, by rw [← h2]; simp, ?_⟩
  simp only [List.length_append, List.length_cons, List.length_nil] at h3 ⊢
  omega
theorem SI.one {row xs : List Int} {n b : Int} {acc : List Int} (h : SI row (b :: xs) (n, acc)) (c : (if b = 0 then n + 1 else 0) ≠ 2) : SI row xs ((if b = 0 then n + 1 else 0), acc ++ [b]) := by
  obtain ⟨h1, h2, h3⟩ := h
  simp only at h1 h2 h3
  rw [st_one c] at h2
  refine ⟨?_, by rw [← h2]; simp, ?_⟩
  · exact nx01 h1 c
  · simp only [List.length_append, List.length_cons, List.length_nil] at h3 ⊢
    omega
theorem SI.len {row xs : List Int} {n b : Int} {acc : List Int} (h : SI row (b :: xs) (n, acc)) : acc.length + 2 ≤ 2 * row.length := by
  have h3 : acc.length + 2 * (xs.length + 1) ≤ 2 * row.length := h.2.2
  omega
theorem SI.end {row : List Int} {s : Int × List Int} (h : SI row [] s) : s.2 = stL 0 row := by
  have := h.2.1
  rw [show stL s.1 [] = [] from rfl, List.append_nil] at this
  exact this
theorem ok_eq {α : Type} {m : Res α} {a : α} (h : Ok m fun r => r = a) : m = .ok a := by
  obtain ⟨r, e, rfl⟩ := h
  exact e
theorem stuffed_m {row : List Int} (hl : row.length ≤ 100000) (h : ∀ b ∈ row, Byt b) : m_stuffed (enc row) = .ok (stL 0 row) := by
  refine ok_eq ?_
  unfold m_stuffed
  refine Ok.bindE (sure_row (by omega) h) (Ok.bindE (a := row.map enc) rfl ?_)
  refine Ok.bind (Ok.forM' (SI row) ?_ ⟨.inl rfl, rfl, by simp⟩) ?_
  · rintro b xs ⟨n, acc⟩ hI
    have hlen := hI.len
    refine Ok.bindE (a := b) rfl (Ok.guard (by simp only; omega) (Ok.bindE (by rw [behind]; rfl) (Ok.ite (fun c => ?_) fun c => ?_)))
    · exact Ok.guard (by simp only [List.length_append, List.length_singleton]; omega) (Ok.pure ⟨_, rfl, hI.two (of_decide_eq_true c)⟩)
    · exact Ok.pure ⟨_, rfl, hI.one (of_decide_eq_false c)⟩
  · rintro _ ⟨s, rfl, hI⟩
    exact Ok.pure hI.end
theorem stuffed_l {row : List Int} (hl : row.length ≤ 100000) : l_stuffed row = .ok (stL 0 row) := by
  refine ok_eq ?_
  unfold l_stuffed
  rw [← List.map_id row]
  refine Ok.bind (Ok.forM' (g := id) (SI row) ?_ ⟨.inl rfl, rfl, by simp⟩) ?_
  · rintro b xs ⟨n, acc⟩ hI
    have hlen := hI.len
    have hn : n = 0 ∨ n = 1 := hI.1
    have e : (n + 1) * b2z (decide (b = 0)) = if b = 0 then n + 1 else 0 := by
      by_cases hb : b = 0
      · rw [if_pos hb, decide_eq_true hb]; show (n + 1) * 1 = _; omega
      · rw [if_neg hb, decide_eq_false hb]; show (n + 1) * 0 = _; omega
    have cm : CMulW (n + 1) (b2z (decide (b = 0))) := mulW (a := 2) (b := 2) (by omega) (by cases decide (b = 0) <;> decide)
    refine Ok.guard (by simp only; omega) (Ok.guard cm (Ok.lt ?_))
    show Ok (if decide ((n + 1) * b2z (decide (b = 0)) = 2) = true then _ else _) _
    refine Ok.ite (fun c => ?_) fun c => ?_
    · exact Ok.guard (by simp only [List.length_append, List.length_singleton]; omega) (Ok.pure ⟨_, rfl, hI.two (by rw [← e]; exact of_decide_eq_true c)⟩)
    · exact Ok.pure ⟨_, rfl, by rw [show ((n, acc) : Int × List Int).1 = n from rfl, show id b = b from rfl, e]; exact hI.one (by rw [← e]; exact of_decide_eq_false c)⟩
  · rintro _ ⟨s, rfl, hI⟩
    rw [List.map_id]
    exact Ok.pure hI.end
def unE (o : Option (List Int)) : Res (List Int) := match o with | some r => .ok r | none => .err ⟨"NoStuffing", []⟩
theorem unstuffed_m {row : List Int} (hl : row.length ≤ 200000) (h : ∀ b ∈ row, Byt b) : m_unstuffed (enc row) = unE (unL 0 row) := by
  unfold m_unstuffed
  rw [sure_row (by omega) h]
  show Res.bind (forR (row.map enc) (0, ([] : List Int)) _) _ = _
  suffices main : ∀ (l : List Int) (n : Int) (acc : List Int), n = 0 ∨ n = 1 ∨ n = 2 → acc.length + l.length ≤ 200000 →
      ((forR (l.map enc) ((n, acc) : Int × List Int) (fun (x29 : D) (a28 : Int × (List Int)) => (if (decide (a28.1 < 2)) = true then (asI x29).bind fun i38 => guardR (a28.2.length < 1000000) <| ((m_noughts_behind a28.1 i38).noErr).bind fun x41 => .ok (.nx (x41, (a28.2 ++ [i38]))) else guardR (okEq x29 (enc (2 : Int))) <| (if (eqD x29 (enc (2 : Int))) = true then .ok (.nx (0, a28.2)) else .err ⟨"NoStuffing", []⟩)))).bind (afterR fun a47 => (if (decide (a47.1 = 2)) = true then .err ⟨"NoStuffing", []⟩ else .ok a47.2)) : Res (List Int)) = unE ((unL n l).map (acc ++ ·)) by
    have := main row 0 [] (.inl rfl) (by simpa using hl)
    rw [show (unL 0 row).map (([] : List Int) ++ ·) = unL 0 row by cases unL 0 row <;> rfl] at this
    exact this
  intro l
  induction l with
  | nil =>
    intro n acc hn _
    rcases hn with rfl | rfl | rfl
    · show Res.ok acc = .ok (acc ++ []); rw [List.append_nil]
    · show Res.ok acc = .ok (acc ++ []); rw [List.append_nil]
    · rfl
  | cons b l ih =>
    intro n acc hn hlen
    have hlen' : acc.length + (l.length + 1) ≤ 200000 := hlen
    by_cases c : n < 2
    · rw [unL_lt c]
      have e := ih (if b = 0 then n + 1 else 0) (acc ++ [b]) (by split <;> omega) (by rw [List.length_append]; show acc.length + 1 + _ ≤ _; omega)
      have e2 : ((unL (if b = 0 then n + 1 else 0) l).map (b :: ·)).map (acc ++ ·) = (unL (if b = 0 then n + 1 else 0) l).map ((acc ++ [b]) ++ ·) := by
        cases unL (if b = 0 then n + 1 else 0) l with
        | none => rfl
        | some r => show some (acc ++ b :: r) = some ((acc ++ [b]) ++ r); rw [List.append_assoc]; rfl
      rw [e2, ← e]
      show Res.bind (Res.bind (if decide (n < 2) = true then _ else _) _) _ = _
      rw [if_pos (decide_eq_true c)]
      show Res.bind (Res.bind (guardR (acc.length < 1000000) _) _) _ = _
      unfold guardR
      rw [if_pos (by omega), behind]
      rfl
    · obtain rfl : n = 2 := by omega
      rw [unL_two]
      show Res.bind (Res.bind (guardR (okEq (enc b) (enc (2 : Int))) (if eqD (enc b) (enc (2 : Int)) = true then _ else _)) _) _ = _
      unfold guardR
      rw [if_pos (okEq_of rfl rfl)]
      have e3 : eqD (enc b) (enc (2 : Int)) = decide (b = 2) := rfl
      rw [e3]
      by_cases hb : b = 2
      · rw [if_pos (decide_eq_true hb), if_pos hb]
        exact ih 0 acc (.inl rfl) (by omega)
      · rw [if_neg (by rw [decide_eq_false hb]; decide), if_neg hb]
        rfl
theorem Ok.whileR {S R : Type} {f : S → Res (Fl S R)} (I : S → Prop) (Q : S → Prop) (Z : R → Prop) (μ : S → Nat) (hf : ∀ s, I s → Ok (f s) fun r => (∃ s', r = .nx s' ∧ I s' ∧ μ s' < μ s) ∨ (∃ s', r = .bk s' ∧ Q s') ∨ ∃ v, r = .rt v ∧ Z v) : ∀ (n : Nat) {s : S}, μ s < n → I s → Ok (Y.whileR n s f) fun r => (∃ s', r = .bk s' ∧ Q s') ∨ ∃ v, r = .rt v ∧ Z v
  | 0, s, h, _ => absurd h (Nat.not_lt_zero _)
  | n + 1, s, h, hI => by
    refine Ok.bind (hf s hI) ?_
    rintro r (⟨s', rfl, h', hm⟩ | ⟨s', rfl, q⟩ | ⟨v, rfl, q⟩)
    · exact Ok.whileR I Q Z μ hf n (by omega) h'
    · exact Ok.pure (.inl ⟨s', rfl, q⟩)
    · exact Ok.pure (.inr ⟨v, rfl, q⟩)
theorem cut2 {l : List Int} {i j : Nat} (h : i + j ≤ 2000000) : cutL l (some (i : Int)) (some ((i + j : Nat) : Int)) = (l.drop i).take j := by
  unfold cutL
  rw [HT.sIx_nat, HT.sIx_nat]
  by_cases c : i ≤ l.length
  · rw [show min i l.length = i by omega]
    rw [List.take_eq_take_iff, List.length_drop]
    omega
  · rw [show min i l.length = l.length by omega, List.drop_of_length_le (Nat.le_refl _), List.drop_of_length_le (by omega)]
    simp
theorem unstuffed_l {row : List Int} (hl : row.length ≤ 200000) : l_unstuffed row = .ok (unL 0 row) := by
  refine ok_eq ?_
  unfold l_unstuffed
  have fact : ∀ {at_ : Int}, 0 ≤ at_ → at_ < (row.length : Int) → ∃ b r, row.drop at_.toNat = b :: r ∧ row[at_.toNat]? = some b ∧ row.drop (at_ + 1).toNat = r ∧ cutL row (some at_) (some (at_ + 2)) = (b :: r).take 2 ∧ (2 ≤ (b :: r).length → row.drop (at_ + 3).toNat = r.drop 2) ∧ cutL row (some (at_ + 2)) (some (at_ + 3)) = (r.drop 1).take 1 := by
    intro at_ h0 h1
    obtain ⟨i, rfl⟩ : ∃ i : Nat, at_ = (i : Int) := ⟨at_.toNat, by omega⟩
    have hi : i < row.length := by omega
    have e0 := List.drop_eq_getElem_cons hi
    refine ⟨row[i], row.drop (i + 1), e0, by rw [Int.toNat_natCast]; exact List.getElem?_eq_getElem hi, ?_, ?_, ?_, ?_⟩
    · rw [show ((i : Int) + 1).toNat = i + 1 by omega]
    · have := cut2 (l := row) (i := i) (j := 2) (by omega)
      rw [e0] at this
      exact this
    · intro _
      rw [show ((i : Int) + 3).toNat = i + 1 + 2 by omega, List.drop_drop]
    · have := cut2 (l := row) (i := i + 2) (j := 1) (by omega)
      rw [show ((i + 2 : Nat) : Int) = (i : Int) + 2 by omega, show ((i + 2 + 1 : Nat) : Int) = (i : Int) + 3 by omega] at this
      rw [this, List.drop_drop]
  refine Ok.bind (φ := fun r => (∃ s : List Int × Int, r = .bk s ∧ some s.1 = lwL row) ∨ ∃ v, r = .rt v ∧ v = (none : Option (List Int)) ∧ lwL row = none) ?_ ?_
  · refine (Ok.whileR (fun (s : List Int × Int) => 0 ≤ s.2 ∧ s.2 ≤ (row.length : Int) ∧ s.1.length ≤ s.2 ∧ (lwL (row.drop s.2.toNat)).map (s.1 ++ ·) = lwL row) (fun s => some s.1 = lwL row) (fun v => v = (none : Option (List Int)) ∧ lwL row = none) (fun s => row.length - s.2.toNat) ?_ _ (by show row.length - 0 < _; omega) ⟨Int.le_refl _, by simp only; omega, by simp, ?_⟩).mono fun r h => h
    · rintro ⟨acc, at_⟩ ⟨h0, h1, h2, h3⟩
      simp only at h0 h1 h2 h3
      refine Ok.ite (fun c => ?_) fun c => ?_
      · have c' := of_decide_eq_true c
        obtain ⟨b, r, f1, f2, f3, f4, f5, f6⟩ := fact h0 c'
        refine Ok.guard (ok_rows _ _) (Ok.ite (fun q => ?_) fun q => ?_)
        · rw [eq_rows] at q
          have q' := of_decide_eq_true q
          simp only at q'
          rw [f4] at q'
          obtain ⟨r', rfl, rfl⟩ : ∃ r', b = 0 ∧ r = 0 :: r' := by
            cases r with
            | nil => simp at q'
            | cons c r' => simp at q'; exact ⟨r', q'.1, by rw [q'.2]⟩
          rw [f1] at h3
          refine Ok.guard (ok_rows _ _) (Ok.ite (fun z => ?_) fun z => ?_)
          · rw [eq_rows] at z
            simp only [Bool.not_eq_true', decide_eq_false_iff_not] at z
            rw [f6] at z
            refine Ok.pure (.inr (.inr ⟨_, rfl, rfl, ?_⟩))
            rw [← h3]
            cases r' with
            | nil => rw [lw_nn0]; rfl
            | cons x r' => rw [lw_nn, if_neg (fun e => z (by rw [e]; rfl))]; rfl
          · rw [eq_rows] at z
            simp only [Bool.not_eq_false', decide_eq_true_eq] at z
            rw [f6] at z
            obtain ⟨r2, rfl⟩ : ∃ r2, r' = 2 :: r2 := by
              cases r' with
              | nil => simp at z
              | cons x r2 => simp at z; exact ⟨r2, by rw [z]⟩
            have len : row.length - at_.toNat = (0 :: 0 :: 2 :: r2 : List Int).length := by rw [← f1, List.length_drop]
            simp only [List.length_cons] at len
            refine Ok.guard (by show acc.length + 2 ≤ _; omega) (Ok.lt (Ok.pure (.inl ⟨_, rfl, ⟨by simp only; omega, by simp only; omega, by simp only [List.length_append, List.length_cons, List.length_nil]; omega, ?_⟩, by simp only; omega⟩)))
            simp only
            rw [f5 (by simp), ← h3, lw_nn, if_pos rfl]
            show (lwL r2).map _ = _
            cases lwL r2 with
            | none => rfl
            | some y => show some ((acc ++ [0, 0]) ++ y) = some (acc ++ 0 :: 0 :: y); rw [List.append_assoc]; rfl
        · rw [eq_rows] at q
          have q' := of_decide_eq_false q
          simp only at q'
          rw [f4] at q'
          refine Ok.ix h0 c' fun x mx ex => ?_
          simp only at ex
          rw [f2] at ex
          cases ex
          refine Ok.guard (by simp only; omega) (Ok.lt (Ok.pure (.inl ⟨_, rfl, ⟨by simp only; omega, by simp only; omega, by simp only [List.length_append, List.length_cons, List.length_nil]; omega, ?_⟩, by simp only; omega⟩)))
          simp only
          rw [f3, ← h3, f1]
          have : lwL (b :: r) = (lwL r).map (b :: ·) := by
            cases r with
            | nil => unfold lwL; rfl
            | cons c r => exact lw_one fun z => q' (by rw [z.1, z.2]; rfl)
          rw [this]
          cases lwL r with
          | none => rfl
          | some y => show some ((acc ++ [b]) ++ y) = some (acc ++ b :: y); rw [List.append_assoc]; rfl
      · have c' := of_decide_eq_false c
        refine Ok.pure (.inr (.inl ⟨_, rfl, ?_⟩))
        simp only at c' ⊢
        rw [← h3, List.drop_of_length_le (by omega)]
        show some acc = some (acc ++ [])
        rw [List.append_nil]
    · show (lwL (row.drop 0)).map _ = _
      rw [List.drop_zero]
      cases lwL row <;> rfl
  · rw [← lw_un row.length row (Nat.le_refl _)]
    rintro _ (⟨s, rfl, e⟩ | ⟨v, rfl, rfl, e⟩)
    · exact Ok.pure e
    · exact Ok.pure e.symm
theorem told_s {row : List Int} (hl : row.length ≤ 100000) (h : ∀ b ∈ row, Byt b) : l_told__stuffed (enc row) = .ok (enc (⟨("told" : Str), stL 0 row⟩ : Tp2 Str (List Int))) := by
  unfold l_told__stuffed
  rw [stuffed_m hl h]
  rfl
def unD (o : Option (List Int)) : D := match o with | some r => enc (⟨("told" : Str), r⟩ : Tp2 Str (List Int)) | none => enc (⟨("stuffing" : Str), false⟩ : Tp2 Str Bool)
theorem told_u {row : List Int} (hl : row.length ≤ 200000) (h : ∀ b ∈ row, Byt b) : l_told__unstuffed (enc row) = .ok (unD (unL 0 row)) := by
  unfold l_told__unstuffed
  rw [unstuffed_m hl h]
  cases unL 0 row with
  | some r => rfl
  | none =>
    show Res.bind (guardR (("NoStuffing" : Str) ∈ (["NoBytes", "NoStuffing"] : List Str)) _) _ = _
    unfold guardR
    rw [if_pos (by simp)]
    rfl
theorem no_s {d : D} (hd : smallD d) (h : isBytes d = false) : l_told__stuffed d = .ok (enc (⟨("bytes" : Str), false⟩ : Tp2 Str Bool)) := by
  have e : m_stuffed d = .err ⟨"NoBytes", []⟩ := by unfold m_stuffed; rw [no_row hd h]; rfl
  unfold l_told__stuffed
  rw [e]
  show Res.bind (guardR (("NoBytes" : Str) ∈ (["NoBytes"] : List Str)) _) _ = _
  unfold guardR
  rw [if_pos (by simp)]
  rfl
theorem no_u {d : D} (hd : smallD d) (h : isBytes d = false) : l_told__unstuffed d = .ok (enc (⟨("bytes" : Str), false⟩ : Tp2 Str Bool)) := by
  have e : m_unstuffed d = .err ⟨"NoBytes", []⟩ := by unfold m_unstuffed; rw [no_row hd h]; rfl
  unfold l_told__unstuffed
  rw [e]
  show Res.bind (guardR (("NoBytes" : Str) ∈ (["NoBytes", "NoStuffing"] : List Str)) _) _ = _
  unfold guardR
  rw [if_pos (by simp)]
  rfl
theorem okB : eqOk 20 (enc (⟨("bytes" : Str), false⟩ : Tp2 Str Bool)) = true := by decide +kernel
theorem okS : eqOk 20 (enc (⟨("stuffing" : Str), false⟩ : Tp2 Str Bool)) = true := by decide +kernel
theorem okT (l : List Int) : eqOk 20 (enc (⟨("told" : Str), l⟩ : Tp2 Str (List Int))) = true := by
  show (PyData.strOk "told" && (eqOks 18 (l.map enc) && true)) = true
  rw [eqOk_ints, show PyData.strOk "told" = true by decide +kernel]
  rfl
theorem eq_of {d : D} (h : eqOk 20 d = true) : eqD d d = true := eqD_refl (eqOk_flat d 20 h).1
theorem right_ok {row : List Int} (hl : row.length ≤ 100000) (h : ∀ b ∈ row, Byt b) : Ok (l_right row) fun r => r = true := by
  unfold l_right
  refine Ok.bindE (told_s hl h) (Ok.bindE (stuffed_l hl) (Ok.guard (okEq_of (okT _) (okT _)) (Ok.iteF (by rw [eq_of (okT _)]; rfl) (Ok.guard (ok_rows _ _) (Ok.iteF (by rw [eq_row]; rfl) (Ok.bindE (unstuffed_l (by omega)) (Ok.bindE (told_u (by omega) h) (Ok.guard (ok_rows _ _) (Ok.iteF (by rw [eq_row]; rfl) ?_)))))))))
  cases unL 0 row with
  | none => exact Ok.iteT rfl (Ok.guard (okEq_of okS okS) (Ok.pure (eq_of okS)))
  | some r =>
    refine Ok.iteF rfl (Ok.guard (okEq_of (okT r) (okT r)) (Ok.iteT (eq_of (okT r)) ?_))
    exact Ok.bindE (a := [enc ("told" : Str), enc r]) rfl (Ok.bindE (a := enc r) rfl (Ok.pure (by decide +kernel : isS "list" "list" = true)))
theorem law_ok (ns : List Int) (h : ns.length ≤ 63) : m_law ns = .ok true := by
  have q : Ok (m_law ns) fun r => r = true := by
    unfold m_law
    refine Ok.guard (by have := cutL_len (l := ns) (lo := none) (hi := some 12); show _ + 2 ≤ _; omega) ?_
    refine Ok.bind (Ok.for (fun _ => True) (fun x s _ _ => ?_) trivial) ?_
    · refine dg (.inl rfl) (by decide) (bg (by decide)) fun x1 s1 a1 b1 h1 => Ok.bind (bytes_l (gd3 h1) a1 (by omega)) fun ⟨row0, s2⟩ ⟨p1, p2, h2⟩ => ?_
      simp only at p1 p2 h2
      refine Ok.bind (φ := fun r => (∀ b ∈ r.1, Byt b) ∧ r.1.length ≤ 60 ∧ r.2.length = 3) ?_ ?_
      · refine dg (gd3 h2) (by decide) (bg (by decide)) fun x3 s3 a3 b3 h3 => Ok.ite (fun _ => ?_) fun _ => Ok.pure ⟨p1, by simp only; omega, h3⟩
        refine dg (gd3 h3) (by decide) (bg (by decide)) fun x4 s4 a4 b4 h4 => Ok.guard ⟨by show 1 * _ ≤ _; omega, by omega, by omega⟩ (Ok.pure ⟨fun b m => ?_, ?_, h4⟩)
        · unfold timesL at m
          obtain ⟨q, mq, m⟩ := List.mem_flatten.mp m
          rw [(List.mem_replicate.mp mq).2, List.mem_singleton] at m
          rw [m]
          exact ⟨by decide, by decide⟩
        · show (timesL [0] x4).length ≤ 60
          unfold timesL
          simp
          omega
      rintro ⟨row, s5⟩ ⟨hr, lr, h5⟩
      simp only at hr lr h5
      refine Ok.bindE (stuffed_l (by simp only; omega)) ?_
      have ls := st_len row 0
      have bs := st_byt row 0 hr
      have us := un_st row 0 (.inl rfl)
      have ms := stuffed_m (by omega) hr
      simp only
      generalize stL 0 row = there at *
      refine Ok.guard ⟨by omega, by omega⟩ (Ok.bind (Ok.for (fun _ => True) (fun at_ s m _ => ?_) (s := ()) trivial) ?_)
      · refine Ok.guard (ok_rows _ _) (Ok.iteF ?_ (Ok.pure ⟨_, rfl, trivial⟩))
        rw [eq_rows]
        refine decide_eq_false fun z => ?_
        obtain ⟨i, rfl⟩ : ∃ i : Nat, at_ = (i : Int) := by
          unfold rngI at m
          simp only [List.mem_map, List.mem_range] at m
          obtain ⟨a, _, e⟩ := m
          exact ⟨at_.toNat, by omega⟩
        have hlt : i ≤ 1000 := by
          unfold rngI at m
          simp only [List.mem_map, List.mem_range] at m
          obtain ⟨a, _, e⟩ := m
          omega
        have e := cut2 (l := there) (i := i) (j := 3) (by omega)
        rw [show ((i + 3 : Nat) : Int) = (i : Int) + 3 by omega] at e
        rw [e] at z
        have e2 : there = there.take i ++ 0 :: 0 :: 1 :: (there.drop i).drop 3 := by
          have e3 := List.take_append_drop 3 (there.drop i)
          rw [z] at e3
          have e4 := List.take_append_drop i there
          rw [← e3] at e4
          exact e4.symm
        have := un_001 (there.take i) ((there.drop i).drop 3) 0 (.inl rfl)
        rw [← e2, us] at this
        exact nomatch this
      rintro _ ⟨_, rfl, _⟩
      refine dg (gd3 h5) (by omega) (bg (by omega)) fun x6 s6 a6 b6 h6 => dg (gd3 h6) (by decide) (bg (by decide)) fun x7 s7 a7 b7 h7 => dg (gd3 h7) (by decide) (bg (by decide)) fun x8 s8 a8 b8 h8 => Ok.ixm a8 b8 fun y my => ?_
      have hy : ∀ b ∈ [y], Byt b := by
        simp only [List.mem_cons, List.not_mem_nil, or_false] at my
        intro b mb
        rw [List.mem_singleton.mp mb]
        unfold Byt
        rcases my with rfl | rfl | rfl | rfl <;> omega
      have cl : ∀ lo hi, (cutL there lo hi).length ≤ 200 := fun lo hi => Nat.le_trans cutL_len (by omega)
      have c1 := cl none (some x6)
      have c2 := cl (some (x6 + 1)) none
      have c3 := cl (some x6) none
      have g1 : (cutL there none (some x6)).length + (cutL there (some (x6 + 1)) none).length ≤ 1000000 := by omega
      have g2 : (cutL there none (some x6)).length + [y].length ≤ 1000000 := by show _ + 1 ≤ _; omega
      have g3 : ((cutL there none (some x6)) ++ [y]).length + (cutL there (some (x6 + 1)) none).length ≤ 1000000 := by rw [List.length_append]; show _ + 1 + _ ≤ _; omega
      have g4 : ((cutL there none (some x6)) ++ [y]).length + (cutL there (some x6) none).length ≤ 1000000 := by rw [List.length_append]; show _ + 1 + _ ≤ _; omega
      refine Ok.guard g1 (Ok.guard g2 (Ok.guard g3 (Ok.guard g2 (Ok.guard g4 (Ok.guard (by show 4 + 3 ≤ 1000000; decide) ?_)))))
      refine Ok.bind (Ok.for (fun _ => True) (fun some_ s m _ => ?_) (s := ()) trivial) ?_
      · have hs : (∀ b ∈ some_, Byt b) ∧ some_.length ≤ 3000 := by
          simp only [List.mem_append, List.mem_cons, List.not_mem_nil, or_false] at m
          rcases m with (rfl | rfl | rfl | rfl) | rfl | rfl | rfl
          · exact ⟨hr, by omega⟩
          · exact ⟨bs, by omega⟩
          · exact ⟨byt_app (byt_cut bs) (byt_cut bs), by rw [List.length_append]; omega⟩
          · exact ⟨byt_app (byt_app (byt_cut bs) hy) (byt_cut bs), by rw [List.length_append, List.length_append]; show _ + 1 + _ ≤ _; omega⟩
          · exact ⟨byt_app (byt_app (byt_cut bs) hy) (byt_cut bs), by rw [List.length_append, List.length_append]; show _ + 1 + _ ≤ _; omega⟩
          · exact ⟨byt_cut bs, by omega⟩
          · exact ⟨hr, by omega⟩
        refine Ok.bind (right_ok (by omega) hs.1) ?_
        rintro _ rfl
        exact Ok.iteT rfl (Ok.pure ⟨_, rfl, trivial⟩)
      rintro _ ⟨_, rfl, _⟩
      have mu : m_unstuffed (enc there) = .ok row := by rw [unstuffed_m (by omega) bs, us]; rfl
      refine Ok.bindE (by rw [ms]; rfl) (Ok.bindE (by rw [mu]; rfl) (Ok.guard (ok_rows _ _) (Ok.iteF (by rw [eq_row]; rfl) ?_)))
      refine Ok.bind (odd_ok (gd3 h8) (by omega) hr) fun ⟨o1, s9⟩ ⟨⟨p1, p2⟩, h9⟩ => Ok.bindE (no_s p2 p1) (Ok.guard (okEq_of okB okB) (Ok.iteF (by rw [eq_of okB]; rfl) (Ok.bindE (no_u p2 p1) (Ok.guard (okEq_of okB okB) (Ok.iteF (by rw [eq_of okB]; rfl) (Ok.pure ⟨_, rfl, trivial⟩))))))
    · rintro _ ⟨_, rfl, _⟩
      exact Ok.pure rfl
  obtain ⟨a, e, rfl⟩ := q
  exact e
end A

set_option Elab.async false
set_option linter.all false
set_option maxRecDepth 100000
set_option maxHeartbeats 4000000
namespace A
open PySem PySem.Spec PyProof.Rows L2 Y
open Y.Enc (enc)
theorem all_mk {l : PySem.W.OpenLaw} {w : World} {K : PySem.W.Frag} {h : Heap} {mg : Str → Option Value} {fa : Addr} (X : K.In h) (G : h.Ns mainGlobals mg) (hfa : mg "law" = some (.ref fa))
    {f_is_whole : Addr} {od_is_whole an_is_whole : Option Addr} {sl_is_whole : Array (Option Value)} {oc_is_whole kV_is_whole dc_is_whole pm_is_whole cd_is_whole ct_is_whole : Value}
    (a_is_whole : PySem.W.nsIn K mainGlobals "is_whole" = some (some (.ref f_is_whole))) (l_is_whole : K.lookup f_is_whole = some ⟨oc_is_whole, od_is_whole, .func (PySem.W.fnOf "is_whole" "is_whole" (defArgs s_is_whole) (defBody s_is_whole) (defScope s_is_whole) .none kV_is_whole dc_is_whole pm_is_whole an_is_whole cd_is_whole ct_is_whole), sl_is_whole⟩) (c_is_whole : PySem.W.codeIn K cd_is_whole "is_whole" = true) (k_is_whole : PySem.W.keepIn K (.ref f_is_whole) = true)
    {f_is_bytes : Addr} {od_is_bytes an_is_bytes : Option Addr} {sl_is_bytes : Array (Option Value)} {oc_is_bytes kV_is_bytes dc_is_bytes pm_is_bytes cd_is_bytes ct_is_bytes : Value}
    (a_is_bytes : PySem.W.nsIn K mainGlobals "is_bytes" = some (some (.ref f_is_bytes))) (l_is_bytes : K.lookup f_is_bytes = some ⟨oc_is_bytes, od_is_bytes, .func (PySem.W.fnOf "is_bytes" "is_bytes" (defArgs s_is_bytes) (defBody s_is_bytes) (defScope s_is_bytes) .none kV_is_bytes dc_is_bytes pm_is_bytes an_is_bytes cd_is_bytes ct_is_bytes), sl_is_bytes⟩) (c_is_bytes : PySem.W.codeIn K cd_is_bytes "is_bytes" = true) (k_is_bytes : PySem.W.keepIn K (.ref f_is_bytes) = true)
    {f_sure_row : Addr} {od_sure_row an_sure_row : Option Addr} {sl_sure_row : Array (Option Value)} {oc_sure_row kV_sure_row dc_sure_row pm_sure_row cd_sure_row ct_sure_row : Value}
    (a_sure_row : PySem.W.nsIn K mainGlobals "sure_row" = some (some (.ref f_sure_row))) (l_sure_row : K.lookup f_sure_row = some ⟨oc_sure_row, od_sure_row, .func (PySem.W.fnOf "sure_row" "sure_row" (defArgs s_sure_row) (defBody s_sure_row) (defScope s_sure_row) .none kV_sure_row dc_sure_row pm_sure_row an_sure_row cd_sure_row ct_sure_row), sl_sure_row⟩) (c_sure_row : PySem.W.codeIn K cd_sure_row "sure_row" = true) (k_sure_row : PySem.W.keepIn K (.ref f_sure_row) = true)
    {f_noughts_behind : Addr} {od_noughts_behind an_noughts_behind : Option Addr} {sl_noughts_behind : Array (Option Value)} {oc_noughts_behind kV_noughts_behind dc_noughts_behind pm_noughts_behind cd_noughts_behind ct_noughts_behind : Value}
    (a_noughts_behind : PySem.W.nsIn K mainGlobals "noughts_behind" = some (some (.ref f_noughts_behind))) (l_noughts_behind : K.lookup f_noughts_behind = some ⟨oc_noughts_behind, od_noughts_behind, .func (PySem.W.fnOf "noughts_behind" "noughts_behind" (defArgs s_noughts_behind) (defBody s_noughts_behind) (defScope s_noughts_behind) .none kV_noughts_behind dc_noughts_behind pm_noughts_behind an_noughts_behind cd_noughts_behind ct_noughts_behind), sl_noughts_behind⟩) (c_noughts_behind : PySem.W.codeIn K cd_noughts_behind "noughts_behind" = true) (k_noughts_behind : PySem.W.keepIn K (.ref f_noughts_behind) = true)
    {f_stuffed : Addr} {od_stuffed an_stuffed : Option Addr} {sl_stuffed : Array (Option Value)} {oc_stuffed kV_stuffed dc_stuffed pm_stuffed cd_stuffed ct_stuffed : Value}
    (a_stuffed : PySem.W.nsIn K mainGlobals "stuffed" = some (some (.ref f_stuffed))) (l_stuffed : K.lookup f_stuffed = some ⟨oc_stuffed, od_stuffed, .func (PySem.W.fnOf "stuffed" "stuffed" (defArgs s_stuffed) (defBody s_stuffed) (defScope s_stuffed) .none kV_stuffed dc_stuffed pm_stuffed an_stuffed cd_stuffed ct_stuffed), sl_stuffed⟩) (c_stuffed : PySem.W.codeIn K cd_stuffed "stuffed" = true) (k_stuffed : PySem.W.keepIn K (.ref f_stuffed) = true)
    {f_unstuffed : Addr} {od_unstuffed an_unstuffed : Option Addr} {sl_unstuffed : Array (Option Value)} {oc_unstuffed kV_unstuffed dc_unstuffed pm_unstuffed cd_unstuffed ct_unstuffed : Value}
    (a_unstuffed : PySem.W.nsIn K mainGlobals "unstuffed" = some (some (.ref f_unstuffed))) (l_unstuffed : K.lookup f_unstuffed = some ⟨oc_unstuffed, od_unstuffed, .func (PySem.W.fnOf "unstuffed" "unstuffed" (defArgs s_unstuffed) (defBody s_unstuffed) (defScope s_unstuffed) .none kV_unstuffed dc_unstuffed pm_unstuffed an_unstuffed cd_unstuffed ct_unstuffed), sl_unstuffed⟩) (c_unstuffed : PySem.W.codeIn K cd_unstuffed "unstuffed" = true) (k_unstuffed : PySem.W.keepIn K (.ref f_unstuffed) = true)
    {f__law_digit : Addr} {od__law_digit an__law_digit : Option Addr} {sl__law_digit : Array (Option Value)} {oc__law_digit kV__law_digit dc__law_digit pm__law_digit cd__law_digit ct__law_digit : Value}
    (a__law_digit : PySem.W.nsIn K mainGlobals "_law_digit" = some (some (.ref f__law_digit))) (l__law_digit : K.lookup f__law_digit = some ⟨oc__law_digit, od__law_digit, .func (PySem.W.fnOf "_law_digit" "_law_digit" (defArgs s__law_digit) (defBody s__law_digit) (defScope s__law_digit) .none kV__law_digit dc__law_digit pm__law_digit an__law_digit cd__law_digit ct__law_digit), sl__law_digit⟩) (c__law_digit : PySem.W.codeIn K cd__law_digit "_law_digit" = true) (k__law_digit : PySem.W.keepIn K (.ref f__law_digit) = true)
    {f__law_odd_row : Addr} {od__law_odd_row an__law_odd_row : Option Addr} {sl__law_odd_row : Array (Option Value)} {oc__law_odd_row kV__law_odd_row dc__law_odd_row pm__law_odd_row cd__law_odd_row ct__law_odd_row : Value}
    (a__law_odd_row : PySem.W.nsIn K mainGlobals "_law_odd_row" = some (some (.ref f__law_odd_row))) (l__law_odd_row : K.lookup f__law_odd_row = some ⟨oc__law_odd_row, od__law_odd_row, .func (PySem.W.fnOf "_law_odd_row" "_law_odd_row" (defArgs s__law_odd_row) (defBody s__law_odd_row) (defScope s__law_odd_row) .none kV__law_odd_row dc__law_odd_row pm__law_odd_row an__law_odd_row cd__law_odd_row ct__law_odd_row), sl__law_odd_row⟩) (c__law_odd_row : PySem.W.codeIn K cd__law_odd_row "_law_odd_row" = true) (k__law_odd_row : PySem.W.keepIn K (.ref f__law_odd_row) = true)
    {f__law_bytes : Addr} {od__law_bytes an__law_bytes : Option Addr} {sl__law_bytes : Array (Option Value)} {oc__law_bytes kV__law_bytes dc__law_bytes pm__law_bytes cd__law_bytes ct__law_bytes : Value}
    (a__law_bytes : PySem.W.nsIn K mainGlobals "_law_bytes" = some (some (.ref f__law_bytes))) (l__law_bytes : K.lookup f__law_bytes = some ⟨oc__law_bytes, od__law_bytes, .func (PySem.W.fnOf "_law_bytes" "_law_bytes" (defArgs s__law_bytes) (defBody s__law_bytes) (defScope s__law_bytes) .none kV__law_bytes dc__law_bytes pm__law_bytes an__law_bytes cd__law_bytes ct__law_bytes), sl__law_bytes⟩) (c__law_bytes : PySem.W.codeIn K cd__law_bytes "_law_bytes" = true) (k__law_bytes : PySem.W.keepIn K (.ref f__law_bytes) = true)
    {f__law_stuffed : Addr} {od__law_stuffed an__law_stuffed : Option Addr} {sl__law_stuffed : Array (Option Value)} {oc__law_stuffed kV__law_stuffed dc__law_stuffed pm__law_stuffed cd__law_stuffed ct__law_stuffed : Value}
    (a__law_stuffed : PySem.W.nsIn K mainGlobals "_law_stuffed" = some (some (.ref f__law_stuffed))) (l__law_stuffed : K.lookup f__law_stuffed = some ⟨oc__law_stuffed, od__law_stuffed, .func (PySem.W.fnOf "_law_stuffed" "_law_stuffed" (defArgs s__law_stuffed) (defBody s__law_stuffed) (defScope s__law_stuffed) .none kV__law_stuffed dc__law_stuffed pm__law_stuffed an__law_stuffed cd__law_stuffed ct__law_stuffed), sl__law_stuffed⟩) (c__law_stuffed : PySem.W.codeIn K cd__law_stuffed "_law_stuffed" = true) (k__law_stuffed : PySem.W.keepIn K (.ref f__law_stuffed) = true)
    {f__law_unstuffed : Addr} {od__law_unstuffed an__law_unstuffed : Option Addr} {sl__law_unstuffed : Array (Option Value)} {oc__law_unstuffed kV__law_unstuffed dc__law_unstuffed pm__law_unstuffed cd__law_unstuffed ct__law_unstuffed : Value}
    (a__law_unstuffed : PySem.W.nsIn K mainGlobals "_law_unstuffed" = some (some (.ref f__law_unstuffed))) (l__law_unstuffed : K.lookup f__law_unstuffed = some ⟨oc__law_unstuffed, od__law_unstuffed, .func (PySem.W.fnOf "_law_unstuffed" "_law_unstuffed" (defArgs s__law_unstuffed) (defBody s__law_unstuffed) (defScope s__law_unstuffed) .none kV__law_unstuffed dc__law_unstuffed pm__law_unstuffed an__law_unstuffed cd__law_unstuffed ct__law_unstuffed), sl__law_unstuffed⟩) (c__law_unstuffed : PySem.W.codeIn K cd__law_unstuffed "_law_unstuffed" = true) (k__law_unstuffed : PySem.W.keepIn K (.ref f__law_unstuffed) = true)
    {f__law_told : Addr} {od__law_told an__law_told : Option Addr} {sl__law_told : Array (Option Value)} {oc__law_told kV__law_told dc__law_told pm__law_told cd__law_told ct__law_told : Value}
    (a__law_told : PySem.W.nsIn K mainGlobals "_law_told" = some (some (.ref f__law_told))) (l__law_told : K.lookup f__law_told = some ⟨oc__law_told, od__law_told, .func (PySem.W.fnOf "_law_told" "_law_told" (defArgs s__law_told__stuffed) (defBody s__law_told__stuffed) (defScope s__law_told__stuffed) .none kV__law_told dc__law_told pm__law_told an__law_told cd__law_told ct__law_told), sl__law_told⟩) (c__law_told : PySem.W.codeIn K cd__law_told "_law_told" = true) (k__law_told : PySem.W.keepIn K (.ref f__law_told) = true)
    {f__law_right : Addr} {od__law_right an__law_right : Option Addr} {sl__law_right : Array (Option Value)} {oc__law_right kV__law_right dc__law_right pm__law_right cd__law_right ct__law_right : Value}
    (a__law_right : PySem.W.nsIn K mainGlobals "_law_right" = some (some (.ref f__law_right))) (l__law_right : K.lookup f__law_right = some ⟨oc__law_right, od__law_right, .func (PySem.W.fnOf "_law_right" "_law_right" (defArgs s__law_right) (defBody s__law_right) (defScope s__law_right) .none kV__law_right dc__law_right pm__law_right an__law_right cd__law_right ct__law_right), sl__law_right⟩) (c__law_right : PySem.W.codeIn K cd__law_right "_law_right" = true) (k__law_right : PySem.W.keepIn K (.ref f__law_right) = true)
    {f_law : Addr} {od_law an_law : Option Addr} {sl_law : Array (Option Value)} {oc_law kV_law dc_law pm_law cd_law ct_law : Value}
    (a_law : PySem.W.nsIn K mainGlobals "law" = some (some (.ref f_law))) (l_law : K.lookup f_law = some ⟨oc_law, od_law, .func (PySem.W.fnOf "law" "law" (defArgs s_law) (defBody s_law) (defScope s_law) .none kV_law dc_law pm_law an_law cd_law ct_law), sl_law⟩) (c_law : PySem.W.codeIn K cd_law "law" = true) (k_law : PySem.W.keepIn K (.ref f_law) = true)
    {C_NoBytes : Addr}
    (xca_NoBytes : PySem.W.nsIn K mainGlobals "NoBytes" = some (some (.ref C_NoBytes)))
    (xchg_NoBytes : PySem.W.findIn K (.ref C_NoBytes) "__getattribute__" = some (some (.builtin "BaseException.__getattribute__")))
    (xchk_NoBytes : PySem.W.findIn K (.ref C_NoBytes) "__getattr__" = some none)
    (xchs_NoBytes : PySem.W.subIn K (.ref C_NoBytes) (.type "BaseException") = some true)
    (xchd_NoBytes : PySem.W.hasDictIn K C_NoBytes = true)
    (xcha_NoBytes : PySem.W.findIn K (.ref C_NoBytes) "__class__" = some (some (.builtin "object.__class__")))
    (xchm_NoBytes : PySem.W.mroIn K C_NoBytes (.type "object") = some true)
    (xcty_NoBytes : PySem.W.typeIn K (.ref C_NoBytes) = some (.type "type"))
    (xckp_NoBytes : PySem.W.keepIn K (.ref C_NoBytes) = true)
    (xcve_NoBytes : PySem.W.subIn K (.ref C_NoBytes) (.type "ValueError") = some true)
    (xcis_NoBytes : PySem.W.isClsIn K C_NoBytes = true)
    (xcself_NoBytes : PySem.W.subIn K (.ref C_NoBytes) (.ref C_NoBytes) = some true)
    (xcex_NoBytes : PySem.W.excIn K C_NoBytes [.type "ValueError", .type "Exception", .type "BaseException", .type "object"] "ValueError.__new__" = true)
    {C_NoStuffing : Addr}
    (xca_NoStuffing : PySem.W.nsIn K mainGlobals "NoStuffing" = some (some (.ref C_NoStuffing)))
    (xchg_NoStuffing : PySem.W.findIn K (.ref C_NoStuffing) "__getattribute__" = some (some (.builtin "BaseException.__getattribute__")))
    (xchk_NoStuffing : PySem.W.findIn K (.ref C_NoStuffing) "__getattr__" = some none)
    (xchs_NoStuffing : PySem.W.subIn K (.ref C_NoStuffing) (.type "BaseException") = some true)
    (xchd_NoStuffing : PySem.W.hasDictIn K C_NoStuffing = true)
    (xcha_NoStuffing : PySem.W.findIn K (.ref C_NoStuffing) "__class__" = some (some (.builtin "object.__class__")))
    (xchm_NoStuffing : PySem.W.mroIn K C_NoStuffing (.type "object") = some true)
    (xcty_NoStuffing : PySem.W.typeIn K (.ref C_NoStuffing) = some (.type "type"))
    (xckp_NoStuffing : PySem.W.keepIn K (.ref C_NoStuffing) = true)
    (xcve_NoStuffing : PySem.W.subIn K (.ref C_NoStuffing) (.type "ValueError") = some true)
    (xcis_NoStuffing : PySem.W.isClsIn K C_NoStuffing = true)
    (xcself_NoStuffing : PySem.W.subIn K (.ref C_NoStuffing) (.ref C_NoStuffing) = some true)
    (xcex_NoStuffing : PySem.W.excIn K C_NoStuffing [.type "ValueError", .type "Exception", .type "BaseException", .type "object"] "ValueError.__new__" = true)
    {C_ScrollError : Addr}
    (xca_ScrollError : PySem.W.nsIn K mainGlobals "ScrollError" = some (some (.ref C_ScrollError)))
    (xchg_ScrollError : PySem.W.findIn K (.ref C_ScrollError) "__getattribute__" = some (some (.builtin "BaseException.__getattribute__")))
    (xchk_ScrollError : PySem.W.findIn K (.ref C_ScrollError) "__getattr__" = some none)
    (xchs_ScrollError : PySem.W.subIn K (.ref C_ScrollError) (.type "BaseException") = some true)
    (xchd_ScrollError : PySem.W.hasDictIn K C_ScrollError = true)
    (xcha_ScrollError : PySem.W.findIn K (.ref C_ScrollError) "__class__" = some (some (.builtin "object.__class__")))
    (xchm_ScrollError : PySem.W.mroIn K C_ScrollError (.type "object") = some true)
    (xcty_ScrollError : PySem.W.typeIn K (.ref C_ScrollError) = some (.type "type"))
    (xckp_ScrollError : PySem.W.keepIn K (.ref C_ScrollError) = true)
    (xcve_ScrollError : PySem.W.subIn K (.ref C_ScrollError) (.type "ValueError") = some true)
    (xcis_ScrollError : PySem.W.isClsIn K C_ScrollError = true)
    (xcself_ScrollError : PySem.W.subIn K (.ref C_ScrollError) (.ref C_ScrollError) = some true)
    (xcex_ScrollError : PySem.W.excIn K C_ScrollError [.type "ValueError", .type "Exception", .type "BaseException", .type "object"] "ValueError.__new__" = true)
    {C_NoNumber : Addr}
    (xca_NoNumber : PySem.W.nsIn K mainGlobals "NoNumber" = some (some (.ref C_NoNumber)))
    (xchg_NoNumber : PySem.W.findIn K (.ref C_NoNumber) "__getattribute__" = some (some (.builtin "BaseException.__getattribute__")))
    (xchk_NoNumber : PySem.W.findIn K (.ref C_NoNumber) "__getattr__" = some none)
    (xchs_NoNumber : PySem.W.subIn K (.ref C_NoNumber) (.type "BaseException") = some true)
    (xchd_NoNumber : PySem.W.hasDictIn K C_NoNumber = true)
    (xcha_NoNumber : PySem.W.findIn K (.ref C_NoNumber) "__class__" = some (some (.builtin "object.__class__")))
    (xchm_NoNumber : PySem.W.mroIn K C_NoNumber (.type "object") = some true)
    (xcty_NoNumber : PySem.W.typeIn K (.ref C_NoNumber) = some (.type "type"))
    (xckp_NoNumber : PySem.W.keepIn K (.ref C_NoNumber) = true)
    (xcve_NoNumber : PySem.W.subIn K (.ref C_NoNumber) (.type "ValueError") = some true)
    (xcis_NoNumber : PySem.W.isClsIn K C_NoNumber = true)
    (xcself_NoNumber : PySem.W.subIn K (.ref C_NoNumber) (.ref C_NoNumber) = some true)
    (xcex_NoNumber : PySem.W.excIn K C_NoNumber [.type "ValueError", .type "Exception", .type "BaseException", .type "object"] "ValueError.__new__" = true)
    {C_NoPlace : Addr}
    (xca_NoPlace : PySem.W.nsIn K mainGlobals "NoPlace" = some (some (.ref C_NoPlace)))
    (xchg_NoPlace : PySem.W.findIn K (.ref C_NoPlace) "__getattribute__" = some (some (.builtin "BaseException.__getattribute__")))
    (xchk_NoPlace : PySem.W.findIn K (.ref C_NoPlace) "__getattr__" = some none)
    (xchs_NoPlace : PySem.W.subIn K (.ref C_NoPlace) (.type "BaseException") = some true)
    (xchd_NoPlace : PySem.W.hasDictIn K C_NoPlace = true)
    (xcha_NoPlace : PySem.W.findIn K (.ref C_NoPlace) "__class__" = some (some (.builtin "object.__class__")))
    (xchm_NoPlace : PySem.W.mroIn K C_NoPlace (.type "object") = some true)
    (xcty_NoPlace : PySem.W.typeIn K (.ref C_NoPlace) = some (.type "type"))
    (xckp_NoPlace : PySem.W.keepIn K (.ref C_NoPlace) = true)
    (xcve_NoPlace : PySem.W.subIn K (.ref C_NoPlace) (.type "ValueError") = some true)
    (xcis_NoPlace : PySem.W.isClsIn K C_NoPlace = true)
    (xcself_NoPlace : PySem.W.subIn K (.ref C_NoPlace) (.ref C_NoPlace) = some true)
    (xcex_NoPlace : PySem.W.excIn K C_NoPlace [.type "ValueError", .type "Exception", .type "BaseException", .type "object"] "ValueError.__new__" = true)
    (p_NoBytes_NoBytes : PySem.W.subIn K (.ref C_NoBytes) (.ref C_NoBytes) = some true)
    (p_NoBytes_NoNumber : PySem.W.subIn K (.ref C_NoBytes) (.ref C_NoNumber) = some false)
    (p_NoBytes_NoPlace : PySem.W.subIn K (.ref C_NoBytes) (.ref C_NoPlace) = some false)
    (p_NoBytes_NoStuffing : PySem.W.subIn K (.ref C_NoBytes) (.ref C_NoStuffing) = some false)
    (p_NoStuffing_NoBytes : PySem.W.subIn K (.ref C_NoStuffing) (.ref C_NoBytes) = some false)
    (p_NoStuffing_NoNumber : PySem.W.subIn K (.ref C_NoStuffing) (.ref C_NoNumber) = some false)
    (p_NoStuffing_NoPlace : PySem.W.subIn K (.ref C_NoStuffing) (.ref C_NoPlace) = some false)
    (p_NoStuffing_NoStuffing : PySem.W.subIn K (.ref C_NoStuffing) (.ref C_NoStuffing) = some true)
    (xhn : PySem.W.specialIn K (.builtin "object.__class__") "__get__" = some (some (.builtin "getset_descriptor.__get__"))) (xht : PySem.W.takesIn K (.builtin "object.__class__") = some true)
    (z_isinstance : PySem.W.nsIn K mainGlobals "isinstance" = some none)
    (z_int : PySem.W.nsIn K mainGlobals "int" = some none)
    (z_bool : PySem.W.nsIn K mainGlobals "bool" = some none)
    (z_list : PySem.W.nsIn K mainGlobals "list" = some none)
    (z_all : PySem.W.nsIn K mainGlobals "all" = some none)
    (z_len : PySem.W.nsIn K mainGlobals "len" = some none)
    (z_tuple : PySem.W.nsIn K mainGlobals "tuple" = some none)
    (z_range : PySem.W.nsIn K mainGlobals "range" = some none)
    : ∃ fd : FuncData, (∀ (s : Shared) (v : Value), BindsTo s fd ⟨[v], []⟩ [("_law_script", v)]) ∧ ∀ base : Heap, K.In base → base.Ns mainGlobals mg → FnOk l.prog w K mg base CX0 7 fa fd ["_law_script"] (spTop K) := by
  have e := hfa.symm.trans (PySem.W.mg_of X G a_law)
  cases e
  have F_is_whole := fun_mk (st := s_is_whole) l_is_whole c_is_whole k_is_whole
  have b_is_whole := F_is_whole.binds (ps := ["thing", "low", "high"]) fun _ _ _ _ _ _ us hl => match us, hl with | [_, _, _], _ => rfl
  have g_is_whole := PySem.W.mg_of X G a_is_whole
  have F_is_bytes := fun_mk (st := s_is_bytes) l_is_bytes c_is_bytes k_is_bytes
  have b_is_bytes := F_is_bytes.binds (ps := ["thing"]) fun _ _ _ _ _ _ us hl => match us, hl with | [_], _ => rfl
  have g_is_bytes := PySem.W.mg_of X G a_is_bytes
  have F_sure_row := fun_mk (st := s_sure_row) l_sure_row c_sure_row k_sure_row
  have b_sure_row := F_sure_row.binds (ps := ["row"]) fun _ _ _ _ _ _ us hl => match us, hl with | [_], _ => rfl
  have g_sure_row := PySem.W.mg_of X G a_sure_row
  have F_noughts_behind := fun_mk (st := s_noughts_behind) l_noughts_behind c_noughts_behind k_noughts_behind
  have b_noughts_behind := F_noughts_behind.binds (ps := ["noughts", "byte"]) fun _ _ _ _ _ _ us hl => match us, hl with | [_, _], _ => rfl
  have g_noughts_behind := PySem.W.mg_of X G a_noughts_behind
  have F_stuffed := fun_mk (st := s_stuffed) l_stuffed c_stuffed k_stuffed
  have b_stuffed := F_stuffed.binds (ps := ["row"]) fun _ _ _ _ _ _ us hl => match us, hl with | [_], _ => rfl
  have g_stuffed := PySem.W.mg_of X G a_stuffed
  have F_unstuffed := fun_mk (st := s_unstuffed) l_unstuffed c_unstuffed k_unstuffed
  have b_unstuffed := F_unstuffed.binds (ps := ["row"]) fun _ _ _ _ _ _ us hl => match us, hl with | [_], _ => rfl
  have g_unstuffed := PySem.W.mg_of X G a_unstuffed
  have F__law_digit := fun_mk (st := s__law_digit) l__law_digit c__law_digit k__law_digit
  have b__law_digit := F__law_digit.binds (ps := ["_law_state", "_law_base"]) fun _ _ _ _ _ _ us hl => match us, hl with | [_, _], _ => rfl
  have g__law_digit := PySem.W.mg_of X G a__law_digit
  have F__law_odd_row := fun_mk (st := s__law_odd_row) l__law_odd_row c__law_odd_row k__law_odd_row
  have b__law_odd_row := F__law_odd_row.binds (ps := ["_law_state", "_law_row"]) fun _ _ _ _ _ _ us hl => match us, hl with | [_, _], _ => rfl
  have g__law_odd_row := PySem.W.mg_of X G a__law_odd_row
  have F__law_bytes := fun_mk (st := s__law_bytes) l__law_bytes c__law_bytes k__law_bytes
  have b__law_bytes := F__law_bytes.binds (ps := ["_law_state", "_law_many"]) fun _ _ _ _ _ _ us hl => match us, hl with | [_, _], _ => rfl
  have g__law_bytes := PySem.W.mg_of X G a__law_bytes
  have F__law_stuffed := fun_mk (st := s__law_stuffed) l__law_stuffed c__law_stuffed k__law_stuffed
  have b__law_stuffed := F__law_stuffed.binds (ps := ["_law_row"]) fun _ _ _ _ _ _ us hl => match us, hl with | [_], _ => rfl
  have g__law_stuffed := PySem.W.mg_of X G a__law_stuffed
  have F__law_unstuffed := fun_mk (st := s__law_unstuffed) l__law_unstuffed c__law_unstuffed k__law_unstuffed
  have b__law_unstuffed := F__law_unstuffed.binds (ps := ["_law_row"]) fun _ _ _ _ _ _ us hl => match us, hl with | [_], _ => rfl
  have g__law_unstuffed := PySem.W.mg_of X G a__law_unstuffed
  have F__law_told := fun_mk (st := s__law_told__stuffed) l__law_told c__law_told k__law_told
  have b__law_told := F__law_told.binds (ps := ["_law_ask", "_law_row"]) fun _ _ _ _ _ _ us hl => match us, hl with | [_, _], _ => rfl
  have g__law_told := PySem.W.mg_of X G a__law_told
  have F__law_right := fun_mk (st := s__law_right) l__law_right c__law_right k__law_right
  have b__law_right := F__law_right.binds (ps := ["_law_row"]) fun _ _ _ _ _ _ us hl => match us, hl with | [_], _ => rfl
  have g__law_right := PySem.W.mg_of X G a__law_right
  have F_law := fun_mk (st := s_law) l_law c_law k_law
  have b_law := F_law.binds (ps := ["_law_script"]) fun _ _ _ _ _ _ us hl => match us, hl with | [_], _ => rfl
  have g_law := PySem.W.mg_of X G a_law
  have F__law_told__stuffed := F__law_told
  have b__law_told__stuffed := b__law_told
  have g__law_told__stuffed := g__law_told
  have k__law_told__stuffed := k__law_told
  have F__law_told__unstuffed := F__law_told
  have b__law_told__unstuffed := b__law_told
  have g__law_told__unstuffed := g__law_told
  have k__law_told__unstuffed := k__law_told
  have T_NoBytes : ExcR K mg "NoBytes" C_NoBytes := ⟨⟨PySem.W.mg_of X G xca_NoBytes, ⟨xchg_NoBytes, xchk_NoBytes, xchs_NoBytes, xchd_NoBytes, xcha_NoBytes, xhn, xht, xchm_NoBytes⟩, xcty_NoBytes, xckp_NoBytes, xcve_NoBytes, xcis_NoBytes, xcself_NoBytes⟩, xcex_NoBytes⟩
  have T_NoStuffing : ExcR K mg "NoStuffing" C_NoStuffing := ⟨⟨PySem.W.mg_of X G xca_NoStuffing, ⟨xchg_NoStuffing, xchk_NoStuffing, xchs_NoStuffing, xchd_NoStuffing, xcha_NoStuffing, xhn, xht, xchm_NoStuffing⟩, xcty_NoStuffing, xckp_NoStuffing, xcve_NoStuffing, xcis_NoStuffing, xcself_NoStuffing⟩, xcex_NoStuffing⟩
  have T_ScrollError : ExcR K mg "ScrollError" C_ScrollError := ⟨⟨PySem.W.mg_of X G xca_ScrollError, ⟨xchg_ScrollError, xchk_ScrollError, xchs_ScrollError, xchd_ScrollError, xcha_ScrollError, xhn, xht, xchm_ScrollError⟩, xcty_ScrollError, xckp_ScrollError, xcve_ScrollError, xcis_ScrollError, xcself_ScrollError⟩, xcex_ScrollError⟩
  have T_NoNumber : ExcR K mg "NoNumber" C_NoNumber := ⟨⟨PySem.W.mg_of X G xca_NoNumber, ⟨xchg_NoNumber, xchk_NoNumber, xchs_NoNumber, xchd_NoNumber, xcha_NoNumber, xhn, xht, xchm_NoNumber⟩, xcty_NoNumber, xckp_NoNumber, xcve_NoNumber, xcis_NoNumber, xcself_NoNumber⟩, xcex_NoNumber⟩
  have T_NoPlace : ExcR K mg "NoPlace" C_NoPlace := ⟨⟨PySem.W.mg_of X G xca_NoPlace, ⟨xchg_NoPlace, xchk_NoPlace, xchs_NoPlace, xchd_NoPlace, xcha_NoPlace, xhn, xht, xchm_NoPlace⟩, xcty_NoPlace, xckp_NoPlace, xcve_NoPlace, xcis_NoPlace, xcself_NoPlace⟩, xcex_NoPlace⟩
  have bI_isinstance := PySem.W.mg_none_of X G z_isinstance
  have bI_int := PySem.W.mg_none_of X G z_int
  have bI_bool := PySem.W.mg_none_of X G z_bool
  have bI_list := PySem.W.mg_none_of X G z_list
  have bI_all := PySem.W.mg_none_of X G z_all
  have bI_len := PySem.W.mg_none_of X G z_len
  have bI_tuple := PySem.W.mg_none_of X G z_tuple
  have bI_range := PySem.W.mg_none_of X G z_range
  refine ⟨_, fun s v => (.of_eq rfl : BindsTo s (PySem.W.fnOf "law" "law" (defArgs s_law) (defBody s_law) (defScope s_law) .none kV_law dc_law pm_law an_law cd_law ct_law) ⟨[v], []⟩ [("_law_script", v)]), fun base _ _ => ?_⟩
  have G_is_whole := ok_is_whole (Pr := l.prog) (wo := w) (base := base) (mg := mg) F_is_whole bI_isinstance bI_int bI_bool
  have G_noughts_behind := ok_noughts_behind (Pr := l.prog) (wo := w) (base := base) (mg := mg) F_noughts_behind
  have G__law_digit := ok__law_digit (Pr := l.prog) (wo := w) (base := base) (mg := mg) F__law_digit bI_len
  have G__law_stuffed := ok__law_stuffed (Pr := l.prog) (wo := w) (base := base) (mg := mg) F__law_stuffed bI_int
  have G__law_unstuffed := ok__law_unstuffed (Pr := l.prog) (wo := w) (base := base) (mg := mg) F__law_unstuffed bI_len
  have G_is_bytes := ok_is_bytes (Pr := l.prog) (wo := w) (base := base) (mg := mg) F_is_bytes g_is_whole k_is_whole b_is_whole G_is_whole bI_isinstance bI_list bI_all
  have G__law_odd_row := ok__law_odd_row (Pr := l.prog) (wo := w) (base := base) (mg := mg) F__law_odd_row g__law_digit k__law_digit b__law_digit G__law_digit bI_len bI_tuple
  have G__law_bytes := ok__law_bytes (Pr := l.prog) (wo := w) (base := base) (mg := mg) F__law_bytes g__law_digit k__law_digit b__law_digit G__law_digit bI_range
  have G_sure_row := ok_sure_row (Pr := l.prog) (wo := w) (base := base) (mg := mg) F_sure_row T_NoBytes g_is_bytes k_is_bytes b_is_bytes G_is_bytes
  have G_stuffed := ok_stuffed (Pr := l.prog) (wo := w) (base := base) (mg := mg) F_stuffed g_sure_row k_sure_row b_sure_row G_sure_row g_noughts_behind k_noughts_behind b_noughts_behind G_noughts_behind
  have G_unstuffed := ok_unstuffed (Pr := l.prog) (wo := w) (base := base) (mg := mg) F_unstuffed T_NoStuffing g_sure_row k_sure_row b_sure_row G_sure_row g_noughts_behind k_noughts_behind b_noughts_behind G_noughts_behind
  have G__law_told__stuffed := ok__law_told__stuffed (Pr := l.prog) (wo := w) (base := base) (mg := mg) F__law_told__stuffed T_NoBytes T_NoStuffing T_ScrollError T_NoNumber T_NoPlace p_NoBytes_NoBytes p_NoBytes_NoNumber p_NoBytes_NoPlace p_NoBytes_NoStuffing g_stuffed k_stuffed b_stuffed G_stuffed bI_isinstance
  have G__law_told__unstuffed := ok__law_told__unstuffed (Pr := l.prog) (wo := w) (base := base) (mg := mg) F__law_told__unstuffed T_NoBytes T_NoStuffing T_ScrollError T_NoNumber T_NoPlace p_NoBytes_NoBytes p_NoBytes_NoNumber p_NoBytes_NoPlace p_NoBytes_NoStuffing p_NoStuffing_NoBytes p_NoStuffing_NoNumber p_NoStuffing_NoPlace p_NoStuffing_NoStuffing g_unstuffed k_unstuffed b_unstuffed G_unstuffed bI_isinstance
  have G__law_right := ok__law_right (Pr := l.prog) (wo := w) (base := base) (mg := mg) F__law_right g__law_unstuffed k__law_unstuffed b__law_unstuffed G__law_unstuffed g_unstuffed k_unstuffed b_unstuffed G_unstuffed g_stuffed k_stuffed b_stuffed G_stuffed g__law_stuffed k__law_stuffed b__law_stuffed G__law_stuffed g__law_told__unstuffed k__law_told__unstuffed b__law_told__unstuffed G__law_told__unstuffed g__law_told__stuffed k__law_told__stuffed b__law_told__stuffed G__law_told__stuffed bI_list bI_isinstance
  have G_law := ok_law (Pr := l.prog) (wo := w) (base := base) (mg := mg) F_law g__law_bytes k__law_bytes b__law_bytes G__law_bytes g__law_stuffed k__law_stuffed b__law_stuffed G__law_stuffed g__law_digit k__law_digit b__law_digit G__law_digit g__law_odd_row k__law_odd_row b__law_odd_row G__law_odd_row g_unstuffed k_unstuffed b_unstuffed G_unstuffed g__law_right k__law_right b__law_right G__law_right g_stuffed k_stuffed b_stuffed G_stuffed g__law_told__stuffed k__law_told__stuffed b__law_told__stuffed G__law_told__stuffed g__law_told__unstuffed k__law_told__unstuffed b__law_told__unstuffed G__law_told__unstuffed bI_range bI_len
  exact G_law.imp fun vs H Q E h => top_of law_ok h
end A
open PySem PySem.W PyProof.Rows
set_option maxRecDepth 100000 in
set_option maxHeartbeats 0 in
theorem PySem.Challenge.cw_lanescroll_k33_stuffed_and_unstuffed_holds : PySem.Challenge.rw_lanescroll_k33_stuffed_and_unstuffed.Holds := by
  w_on; o_law; k_head; (case hw => w_witness2)
  k_fill
  refine Y.walk_top (l := PySem.Challenge.rw_lanescroll_k33_stuffed_and_unstuffed) (k := 7) (x := "_law_script") rfl rfl ⟨rfl, by decide, by decide⟩ (fun w h Y => PySem.W.kIn_of Y) ?F
  case F =>
    intro w mg fa h KX G hmg
    refine' A.all_mk KX G hmg ?a_is_whole ?l_is_whole ?c_is_whole ?k_is_whole ?a_is_bytes ?l_is_bytes ?c_is_bytes ?k_is_bytes ?a_sure_row ?l_sure_row ?c_sure_row ?k_sure_row ?a_noughts_behind ?l_noughts_behind ?c_noughts_behind ?k_noughts_behind ?a_stuffed ?l_stuffed ?c_stuffed ?k_stuffed ?a_unstuffed ?l_unstuffed ?c_unstuffed ?k_unstuffed ?a__law_digit ?l__law_digit ?c__law_digit ?k__law_digit ?a__law_odd_row ?l__law_odd_row ?c__law_odd_row ?k__law_odd_row ?a__law_bytes ?l__law_bytes ?c__law_bytes ?k__law_bytes ?a__law_stuffed ?l__law_stuffed ?c__law_stuffed ?k__law_stuffed ?a__law_unstuffed ?l__law_unstuffed ?c__law_unstuffed ?k__law_unstuffed ?a__law_told ?l__law_told ?c__law_told ?k__law_told ?a__law_right ?l__law_right ?c__law_right ?k__law_right ?a_law ?l_law ?c_law ?k_law ?xca_NoBytes ?xchg_NoBytes ?xchk_NoBytes ?xchs_NoBytes ?xchd_NoBytes ?xcha_NoBytes ?xchm_NoBytes ?xcty_NoBytes ?xckp_NoBytes ?xcve_NoBytes ?xcis_NoBytes ?xcself_NoBytes ?xcex_NoBytes ?xca_NoStuffing ?xchg_NoStuffing ?xchk_NoStuffing ?xchs_NoStuffing ?xchd_NoStuffing ?xcha_NoStuffing ?xchm_NoStuffing ?xcty_NoStuffing ?xckp_NoStuffing ?xcve_NoStuffing ?xcis_NoStuffing ?xcself_NoStuffing ?xcex_NoStuffing ?xca_ScrollError ?xchg_ScrollError ?xchk_ScrollError ?xchs_ScrollError ?xchd_ScrollError ?xcha_ScrollError ?xchm_ScrollError ?xcty_ScrollError ?xckp_ScrollError ?xcve_ScrollError ?xcis_ScrollError ?xcself_ScrollError ?xcex_ScrollError ?xca_NoNumber ?xchg_NoNumber ?xchk_NoNumber ?xchs_NoNumber ?xchd_NoNumber ?xcha_NoNumber ?xchm_NoNumber ?xcty_NoNumber ?xckp_NoNumber ?xcve_NoNumber ?xcis_NoNumber ?xcself_NoNumber ?xcex_NoNumber ?xca_NoPlace ?xchg_NoPlace ?xchk_NoPlace ?xchs_NoPlace ?xchd_NoPlace ?xcha_NoPlace ?xchm_NoPlace ?xcty_NoPlace ?xckp_NoPlace ?xcve_NoPlace ?xcis_NoPlace ?xcself_NoPlace ?xcex_NoPlace ?p_NoBytes_NoBytes ?p_NoBytes_NoNumber ?p_NoBytes_NoPlace ?p_NoBytes_NoStuffing ?p_NoStuffing_NoBytes ?p_NoStuffing_NoNumber ?p_NoStuffing_NoPlace ?p_NoStuffing_NoStuffing ?xhn ?xht ?z_isinstance ?z_int ?z_bool ?z_list ?z_all ?z_len ?z_tuple ?z_range
    (case a_is_whole => k_is)
    (case l_is_whole => k_is)
    (case c_is_whole => k_is)
    (case k_is_whole => k_is)
    (case a_is_bytes => k_is)
    (case l_is_bytes => k_is)
    (case c_is_bytes => k_is)
    (case k_is_bytes => k_is)
    (case a_sure_row => k_is)
    (case l_sure_row => k_is)
    (case c_sure_row => k_is)
    (case k_sure_row => k_is)
    (case a_noughts_behind => k_is)
    (case l_noughts_behind => k_is)
    (case c_noughts_behind => k_is)
    (case k_noughts_behind => k_is)
    (case a_stuffed => k_is)
    (case l_stuffed => k_is)
    (case c_stuffed => k_is)
    (case k_stuffed => k_is)
    (case a_unstuffed => k_is)
    (case l_unstuffed => k_is)
    (case c_unstuffed => k_is)
    (case k_unstuffed => k_is)
    (case a__law_digit => k_is)
    (case l__law_digit => k_is)
    (case c__law_digit => k_is)
    (case k__law_digit => k_is)
    (case a__law_odd_row => k_is)
    (case l__law_odd_row => k_is)
    (case c__law_odd_row => k_is)
    (case k__law_odd_row => k_is)
    (case a__law_bytes => k_is)
    (case l__law_bytes => k_is)
    (case c__law_bytes => k_is)
    (case k__law_bytes => k_is)
    (case a__law_stuffed => k_is)
    (case l__law_stuffed => k_is)
    (case c__law_stuffed => k_is)
    (case k__law_stuffed => k_is)
    (case a__law_unstuffed => k_is)
    (case l__law_unstuffed => k_is)
    (case c__law_unstuffed => k_is)
    (case k__law_unstuffed => k_is)
    (case a__law_told => k_is)
    (case l__law_told => k_is)
    (case c__law_told => k_is)
    (case k__law_told => k_is)
    (case a__law_right => k_is)
    (case l__law_right => k_is)
    (case c__law_right => k_is)
    (case k__law_right => k_is)
    (case a_law => k_is)
    (case l_law => k_is)
    (case c_law => k_is)
    (case k_law => k_is)
    (case xca_NoBytes => k_is)
    (case xchg_NoBytes => k_is)
    (case xchk_NoBytes => k_is)
    (case xchs_NoBytes => k_is)
    (case xchd_NoBytes => k_is)
    (case xcha_NoBytes => k_is)
    (case xchm_NoBytes => k_is)
    (case xcty_NoBytes => k_is)
    (case xckp_NoBytes => k_is)
    (case xcve_NoBytes => k_is)
    (case xcis_NoBytes => k_is)
    (case xcself_NoBytes => k_is)
    (case xcex_NoBytes => k_exc)
    (case xca_NoStuffing => k_is)
    (case xchg_NoStuffing => k_is)
    (case xchk_NoStuffing => k_is)
    (case xchs_NoStuffing => k_is)
    (case xchd_NoStuffing => k_is)
    (case xcha_NoStuffing => k_is)
    (case xchm_NoStuffing => k_is)
    (case xcty_NoStuffing => k_is)
    (case xckp_NoStuffing => k_is)
    (case xcve_NoStuffing => k_is)
    (case xcis_NoStuffing => k_is)
    (case xcself_NoStuffing => k_is)
    (case xcex_NoStuffing => k_exc)
    (case xca_ScrollError => k_is)
    (case xchg_ScrollError => k_is)
    (case xchk_ScrollError => k_is)
    (case xchs_ScrollError => k_is)
    (case xchd_ScrollError => k_is)
    (case xcha_ScrollError => k_is)
    (case xchm_ScrollError => k_is)
    (case xcty_ScrollError => k_is)
    (case xckp_ScrollError => k_is)
    (case xcve_ScrollError => k_is)
    (case xcis_ScrollError => k_is)
    (case xcself_ScrollError => k_is)
    (case xcex_ScrollError => k_exc)
    (case xca_NoNumber => k_is)
    (case xchg_NoNumber => k_is)
    (case xchk_NoNumber => k_is)
    (case xchs_NoNumber => k_is)
    (case xchd_NoNumber => k_is)
    (case xcha_NoNumber => k_is)
    (case xchm_NoNumber => k_is)
    (case xcty_NoNumber => k_is)
    (case xckp_NoNumber => k_is)
    (case xcve_NoNumber => k_is)
    (case xcis_NoNumber => k_is)
    (case xcself_NoNumber => k_is)
    (case xcex_NoNumber => k_exc)
    (case xca_NoPlace => k_is)
    (case xchg_NoPlace => k_is)
    (case xchk_NoPlace => k_is)
    (case xchs_NoPlace => k_is)
    (case xchd_NoPlace => k_is)
    (case xcha_NoPlace => k_is)
    (case xchm_NoPlace => k_is)
    (case xcty_NoPlace => k_is)
    (case xckp_NoPlace => k_is)
    (case xcve_NoPlace => k_is)
    (case xcis_NoPlace => k_is)
    (case xcself_NoPlace => k_is)
    (case xcex_NoPlace => k_exc)
    (case p_NoBytes_NoBytes => k_is)
    (case p_NoBytes_NoNumber => k_is)
    (case p_NoBytes_NoPlace => k_is)
    (case p_NoBytes_NoStuffing => k_is)
    (case p_NoStuffing_NoBytes => k_is)
    (case p_NoStuffing_NoNumber => k_is)
    (case p_NoStuffing_NoPlace => k_is)
    (case p_NoStuffing_NoStuffing => k_is)
    (case xhn => k_is)
    (case xht => k_is)
    (case z_isinstance => k_is)
    (case z_int => k_is)
    (case z_bool => k_is)
    (case z_list => k_is)
    (case z_all => k_is)
    (case z_len => k_is)
    (case z_tuple => k_is)
    (case z_range => k_is)
